import JvmDerived
import JvmDerived.Pilot.@@N@@Statement
import JvmDerived.Pilot.@@N@@Code
set_option linter.unusedVariables false
set_option linter.unusedSimpArgs false
namespace Jvm.Own
open Sem ClassFile Op Lib Jvm.Stand Jvm.Free Jvm.LawKit Jvm.RoadKit
/-! OWN 1: words of the sheet, resolved -/
abbrev AHeap := List (FieldType × List Value)
abbrev Ws := List Jvm.Cond
def rFld (ws : Ws) (own : String) (i : Nat) : Option (String × String × String) :=
  ws.findSome? fun d => match d with
    | .fieldLink o j C n t => if o = own ∧ j = i then some (C, n, t) else none
    | _ => none
def rCls (ws : Ws) (own : String) (i : Nat) : Option String :=
  ws.findSome? fun d => match d with
    | .classLink o j C => if o = own ∧ j = i then some C else none
    | _ => none
def rMth (ws : Ws) (own : String) (i : Nat) : Option MethodName :=
  ws.findSome? fun d => match d with
    | .methodLink o j y => if o = own ∧ j = i then some y else none
    | _ => none
def rCon (ws : Ws) (own : String) (i : Nat) : Option Int32 :=
  ws.findSome? fun d => match d with
    | .constant o j v => if o = own ∧ j = i then some v else none
    | _ => none
def rConL (ws : Ws) (own : String) (i : Nat) : Option Int64 :=
  ws.findSome? fun d => match d with
    | .constantLong o j v => if o = own ∧ j = i then some v else none
    | _ => none
def rInst (ws : Ws) (C : String) : Option Nat :=
  ws.findSome? fun d => match d with
    | .instantiable c n => if c = C then some n else none
    | _ => none
def rCode (ws : Ws) (y : MethodName) : Option (ByteArray × Nat × Option FieldType) :=
  ws.findSome? fun d => match d with
    | .code z b m r => if z = y then some (b, m, r) else none
    | _ => none
def hasInit (ws : Ws) (C : String) : Bool := ws.any fun d => match d with | .initialized c => c == C | _ => false
def hasArr (ws : Ws) (t : FieldType) : Bool := ws.any fun d => match d with | .arrayClass c => decide (c = t) | _ => false
def hasStat (ws : Ws) (y : MethodName) : Bool := ws.any fun d => match d with | .static z => decide (z = y) | _ => false
def hasIM (ws : Ws) (y : MethodName) : Bool := ws.any fun d => match d with | .instanceMethod z => decide (z = y) | _ => false
def hasPriv (ws : Ws) (y : MethodName) : Bool := ws.any fun d => match d with | .privateMethod z => decide (z = y) | _ => false
def hasDecl (ws : Ws) (y : MethodName) : Bool := ws.any fun d => match d with | .declares z => decide (z = y) | _ => false
def hasSel (ws : Ws) (y : MethodName) : Bool := ws.any fun d => match d with | .selects c z z' => decide (c = y.cls ∧ z = y ∧ z' = y) | _ => false
def hasLays (ws : Ws) (C n t : String) : Bool := ws.any fun d => match d with | .lays c o n' t' => decide (c = C ∧ o = C ∧ n' = n ∧ t' = t) | _ => false
def hasLaysF (ws : Ws) (C n t : String) : Bool := ws.any fun d => match d with | .laysFinal c o n' t' => decide (c = C ∧ o = C ∧ n' = n ∧ t' = t) | _ => false
def layE (C : String) : Jvm.Cond → Option (String × String)
  | .lays c o n t => if c = C ∧ o = C ∧ (parseFieldDescriptor t).isSome = true then some (n, t) else none
  | .laysFinal c o n t => if c = C ∧ o = C ∧ (parseFieldDescriptor t).isSome = true then some (n, t) else none
  | _ => none
def olay (ws : Ws) (C : String) : List (String × String) := ws.filterMap (layE C)
def idx (x : String × String) : List (String × String) → Option Nat
  | [] => none
  | y :: r => if y = x then some 0 else (idx x r).map (· + 1)
def fidx (ws : Ws) (C n t : String) : Option Nat := idx (n, t) (olay ws C)
def gfR (ws : Ws) (own : String) (i : Nat) : Option (String × Nat) :=
  match rFld ws own i with
  | some (C, n, t) => (fidx ws C n t).map fun j => (C, j)
  | none => none
def pfR (ws : Ws) (own mn : String) (i : Nat) : Option (String × Nat × FieldType) :=
  match rFld ws own i with
  | some (C, n, t) =>
    match fidx ws C n t, parseFieldDescriptor t with
    | some j, some ty => if (hasLays ws C n t || (hasLaysF ws C n t && own == C && mn == "<init>")) && (rInst ws C).isSome && (olay ws C).all (fun q => q.1 != n || q.2 == t) then some (C, j, ty) else none
    | _, _ => none
  | none => none
section Res
variable {ws : Ws} {own C n t : String} {i : Nat} {y : MethodName}
theorem rFld_mem (h : rFld ws own i = some (C, n, t)) : Jvm.Cond.fieldLink own i C n t ∈ ws := by
  obtain ⟨d, hd, e⟩ := List.exists_of_findSome?_eq_some h
  split at e
  · split at e
    · rename_i q; obtain ⟨rfl, rfl⟩ := q; cases e; exact hd
    · cases e
  · cases e
theorem rCls_mem (h : rCls ws own i = some C) : Jvm.Cond.classLink own i C ∈ ws := by
  obtain ⟨d, hd, e⟩ := List.exists_of_findSome?_eq_some h
  split at e
  · split at e
    · rename_i q; obtain ⟨rfl, rfl⟩ := q; cases e; exact hd
    · cases e
  · cases e
theorem rMth_mem (h : rMth ws own i = some y) : Jvm.Cond.methodLink own i y ∈ ws := by
  obtain ⟨d, hd, e⟩ := List.exists_of_findSome?_eq_some h
  split at e
  · split at e
    · rename_i q; obtain ⟨rfl, rfl⟩ := q; cases e; exact hd
    · cases e
  · cases e
theorem rCon_mem {v : Int32} (h : rCon ws own i = some v) : Jvm.Cond.constant own i v ∈ ws := by
  obtain ⟨d, hd, e⟩ := List.exists_of_findSome?_eq_some h
  split at e
  · split at e
    · rename_i q; obtain ⟨rfl, rfl⟩ := q; cases e; exact hd
    · cases e
  · cases e
theorem rConL_mem {v : Int64} (h : rConL ws own i = some v) : Jvm.Cond.constantLong own i v ∈ ws := by
  obtain ⟨d, hd, e⟩ := List.exists_of_findSome?_eq_some h
  split at e
  · split at e
    · rename_i q; obtain ⟨rfl, rfl⟩ := q; cases e; exact hd
    · cases e
  · cases e
theorem rInst_mem {k : Nat} (h : rInst ws C = some k) : Jvm.Cond.instantiable C k ∈ ws := by
  obtain ⟨d, hd, e⟩ := List.exists_of_findSome?_eq_some h
  split at e
  · split at e
    · rename_i q; subst q; cases e; exact hd
    · cases e
  · cases e
theorem rCode_mem {b : ByteArray} {k : Nat} {r : Option FieldType} (h : rCode ws y = some (b, k, r)) : Jvm.Cond.code y b k r ∈ ws := by
  obtain ⟨d, hd, e⟩ := List.exists_of_findSome?_eq_some h
  split at e
  · split at e
    · rename_i q; subst q; cases e; exact hd
    · cases e
  · cases e
theorem hasInit_mem (h : hasInit ws C = true) : Jvm.Cond.initialized C ∈ ws := by
  obtain ⟨d, hd, e⟩ := List.any_eq_true.mp h
  split at e
  · rw [beq_iff_eq] at e; subst e; exact hd
  · cases e
theorem hasArr_mem {ty : FieldType} (h : hasArr ws ty = true) : Jvm.Cond.arrayClass ty ∈ ws := by
  obtain ⟨d, hd, e⟩ := List.any_eq_true.mp h
  split at e
  · have e := of_decide_eq_true e; subst e; exact hd
  · cases e
theorem hasStat_mem (h : hasStat ws y = true) : Jvm.Cond.static y ∈ ws := by
  obtain ⟨d, hd, e⟩ := List.any_eq_true.mp h
  split at e
  · have e := of_decide_eq_true e; subst e; exact hd
  · cases e
theorem hasIM_mem (h : hasIM ws y = true) : Jvm.Cond.instanceMethod y ∈ ws := by
  obtain ⟨d, hd, e⟩ := List.any_eq_true.mp h
  split at e
  · have e := of_decide_eq_true e; subst e; exact hd
  · cases e
theorem hasPriv_mem (h : hasPriv ws y = true) : Jvm.Cond.privateMethod y ∈ ws := by
  obtain ⟨d, hd, e⟩ := List.any_eq_true.mp h
  split at e
  · have e := of_decide_eq_true e; subst e; exact hd
  · cases e
theorem hasDecl_mem (h : hasDecl ws y = true) : Jvm.Cond.declares y ∈ ws := by
  obtain ⟨d, hd, e⟩ := List.any_eq_true.mp h
  split at e
  · have e := of_decide_eq_true e; subst e; exact hd
  · cases e
theorem hasSel_mem (h : hasSel ws y = true) : Jvm.Cond.selects y.cls y y ∈ ws := by
  obtain ⟨d, hd, e⟩ := List.any_eq_true.mp h
  split at e
  · obtain ⟨rfl, rfl, rfl⟩ := of_decide_eq_true e; exact hd
  · cases e
theorem hasLays_mem (h : hasLays ws C n t = true) : Jvm.Cond.lays C C n t ∈ ws := by
  obtain ⟨d, hd, e⟩ := List.any_eq_true.mp h
  split at e
  · obtain ⟨rfl, rfl, rfl, rfl⟩ := of_decide_eq_true e; exact hd
  · cases e
theorem hasLaysF_mem (h : hasLaysF ws C n t = true) : Jvm.Cond.laysFinal C C n t ∈ ws := by
  obtain ⟨d, hd, e⟩ := List.any_eq_true.mp h
  split at e
  · obtain ⟨rfl, rfl, rfl, rfl⟩ := of_decide_eq_true e; exact hd
  · cases e
theorem lay_mem (h : (n, t) ∈ olay ws C) : (Jvm.Cond.lays C C n t ∈ ws ∨ Jvm.Cond.laysFinal C C n t ∈ ws) ∧ ∃ ty, parseFieldDescriptor t = some ty := by
  obtain ⟨d, hd, e⟩ := List.mem_filterMap.mp h
  unfold layE at e
  split at e
  · split at e
    · rename_i q; obtain ⟨rfl, rfl, q⟩ := q; cases e; exact ⟨Or.inl hd, Option.isSome_iff_exists.mp q⟩
    · cases e
  · split at e
    · rename_i q; obtain ⟨rfl, rfl, q⟩ := q; cases e; exact ⟨Or.inr hd, Option.isSome_iff_exists.mp q⟩
    · cases e
  · cases e
theorem idx_get {x : String × String} : ∀ {l : List (String × String)} {j : Nat}, idx x l = some j → l[j]? = some x
  | [], _, h => by cases h
  | y :: r, j, h => by
    unfold idx at h
    split at h
    · rename_i q; cases h; simp [q]
    · obtain ⟨j', h', rfl⟩ := Option.map_eq_some_iff.mp h
      simpa using idx_get h'
theorem fidx_mem {j : Nat} (h : fidx ws C n t = some j) : (n, t) ∈ olay ws C := List.mem_of_getElem? (idx_get h)
theorem fidx_inj {n' t' : String} {j : Nat} (h : fidx ws C n t = some j) (h' : fidx ws C n' t' = some j) : n = n' ∧ t = t' := by
  have := (idx_get h).symm.trans (idx_get h')
  simpa using this
theorem gfR_some {j : Nat} (h : gfR ws own i = some (C, j)) : ∃ n t, rFld ws own i = some (C, n, t) ∧ fidx ws C n t = some j := by
  unfold gfR at h
  split at h
  · rename_i C' n' t' q
    obtain ⟨j', h', e⟩ := Option.map_eq_some_iff.mp h
    cases e; exact ⟨_, _, q, h'⟩
  · cases h
theorem pfR_some {mn : String} {j : Nat} {ty : FieldType} (h : pfR ws own mn i = some (C, j, ty)) : ∃ n t, rFld ws own i = some (C, n, t) ∧ fidx ws C n t = some j ∧ parseFieldDescriptor t = some ty ∧
    (Jvm.Cond.lays C C n t ∈ ws ∨ (Jvm.Cond.laysFinal C C n t ∈ ws ∧ own = C ∧ mn = "<init>")) ∧ (∃ k, Jvm.Cond.instantiable C k ∈ ws) ∧ ∀ n' t', (n', t') ∈ olay ws C → n' ≠ n ∨ t' = t := by
  unfold pfR at h
  split at h
  · rename_i C' n' t' q
    split at h
    · rename_i j' ty' q1 q2
      split at h
      · rename_i g
        cases h
        simp only [Bool.and_eq_true, Bool.or_eq_true, beq_iff_eq, List.all_eq_true, bne_iff_ne, ne_eq] at g
        obtain ⟨⟨g1, g2⟩, g3⟩ := g
        obtain ⟨k, hk⟩ := Option.isSome_iff_exists.mp g2
        refine ⟨n', t', q, q1, q2, ?_, ⟨k, rInst_mem hk⟩, fun a b hab => g3 (a, b) hab⟩
        rcases g1 with g1 | ⟨⟨g1, g4⟩, g5⟩
        · exact Or.inl (hasLays_mem g1)
        · exact Or.inr ⟨hasLaysF_mem g1, g4, g5⟩
      · cases h
    · cases h
  · cases h
end Res
end Jvm.Own
namespace Jvm.Own
open Sem ClassFile Op Lib Jvm.Stand Jvm.Free Jvm.LawKit Jvm.RoadKit
/-! OWN 2: the abstract machine -/
abbrev XR := Option (Nat × List Slot × List Value)
def chk {α : Type} (a b : Nat) (x : Option α) : Option α := if a = b then x else none
def isI : Value → Bool | .int _ => true | _ => false
def isL : Value → Bool | .long _ => true | _ => false
def stl (ls : List Slot) (i : Nat) (v : Value) : Option (List Slot) := (storeLocals ls.toArray i v).map Array.toList
def ldV (p : Value → Bool) (nx i : Nat) (ls : List Slot) (st : List Value) : XR :=
  match ls[i]? with
  | some (.val v) => if p v = true then some (nx, ls, v :: st) else none
  | _ => none
def stV (p : Value → Bool) (nx i : Nat) (ls : List Slot) : List Value → XR
  | v :: r => if p v = true then (stl ls i v).map fun l' => (nx, l', r) else none
  | [] => none
def b2 (f : Int32 → Int32 → Int32) (nx : Nat) (ls : List Slot) : List Value → XR
  | .int y :: .int x :: r => some (nx, ls, .int (f x y) :: r)
  | _ => none
def d2 (f : Int32 → Int32 → Int32) (nx : Nat) (ls : List Slot) : List Value → XR
  | .int y :: .int x :: r => if y = 0 then none else some (nx, ls, .int (f x y) :: r)
  | _ => none
def u1 (f : Int32 → Int32) (nx : Nat) (ls : List Slot) : List Value → XR
  | .int x :: r => some (nx, ls, .int (f x) :: r)
  | _ => none
def l2 (f : Int64 → Int64 → Int64) (nx : Nat) (ls : List Slot) : List Value → XR
  | .long y :: .long x :: r => some (nx, ls, .long (f x y) :: r)
  | _ => none
def lsh (f : Int64 → Int32 → Int64) (nx : Nat) (ls : List Slot) : List Value → XR
  | .int y :: .long x :: r => some (nx, ls, .long (f x y) :: r)
  | _ => none
def jmp (pc : Nat) (o : Int) : Option Nat := if 0 ≤ (pc : Int) + o then some ((pc : Int) + o).toNat else none
def br (c : Bool) (pc : Nat) (o : Int) (ls : List Slot) (r : List Value) : XR :=
  if c = true then (jmp pc o).map fun q => (q, ls, r) else some (pc + 3, ls, r)
def sw (pc : Nat) (dflt low high : Int) (offs : Array Int) (ls : List Slot) : List Value → XR
  | .int i :: r => if i.toInt < low ∨ i.toInt > high then (jmp pc dflt).map fun q => (q, ls, r) else
      match offs[(i.toInt - low).toNat]? with
      | some o => (jmp pc o).map fun q => (q, ls, r)
      | none => none
  | _ => none
def xstep (ins : Instr) (len pc : Nat) (ls : List Slot) (st : List Value) : XR :=
  match ins with
  | .aload_n i => chk len 1 (ldV Value.isRef (pc + 1) i.val ls st)
  | .aload i => chk len 2 (ldV Value.isRef (pc + 2) i ls st)
  | .iload_n i => chk len 1 (ldV isI (pc + 1) i.val ls st)
  | .iload i => chk len 2 (ldV isI (pc + 2) i ls st)
  | .lload_n i => chk len 1 (ldV isL (pc + 1) i.val ls st)
  | .lload i => chk len 2 (ldV isL (pc + 2) i ls st)
  | .astore_n i => chk len 1 (stV Value.isRef (pc + 1) i.val ls st)
  | .astore i => chk len 2 (stV Value.isRef (pc + 2) i ls st)
  | .istore_n i => chk len 1 (stV isI (pc + 1) i.val ls st)
  | .istore i => chk len 2 (stV isI (pc + 2) i ls st)
  | .lstore_n i => chk len 1 (stV isL (pc + 1) i.val ls st)
  | .lstore i => chk len 2 (stV isL (pc + 2) i ls st)
  | .iconst i => chk len 1 (some (pc + 1, ls, .int (Int32.ofInt i) :: st))
  | .bipush i => chk len 2 (some (pc + 2, ls, .int (Int8.ofInt i).toInt32 :: st))
  | .sipush i => chk len 3 (some (pc + 3, ls, .int (Int16.ofInt i).toInt32 :: st))
  | .lconst i => chk len 1 (some (pc + 1, ls, .long (Int64.ofNat i) :: st))
  | .iadd => chk len 1 (b2 (fun x y => x + y) (pc + 1) ls st)
  | .isub => chk len 1 (b2 (fun x y => x - y) (pc + 1) ls st)
  | .imul => chk len 1 (b2 (fun x y => x * y) (pc + 1) ls st)
  | .iand => chk len 1 (b2 (fun x y => x &&& y) (pc + 1) ls st)
  | .ior => chk len 1 (b2 (fun x y => x ||| y) (pc + 1) ls st)
  | .ixor => chk len 1 (b2 (fun x y => x ^^^ y) (pc + 1) ls st)
  | .ishl => chk len 1 (b2 (fun x y => x <<< (y &&& 31)) (pc + 1) ls st)
  | .ishr => chk len 1 (b2 (fun x y => x >>> (y &&& 31)) (pc + 1) ls st)
  | .iushr => chk len 1 (b2 XT.ushr (pc + 1) ls st)
  | .idiv => chk len 1 (d2 (fun x y => x / y) (pc + 1) ls st)
  | .irem => chk len 1 (d2 (fun x y => x % y) (pc + 1) ls st)
  | .ineg => chk len 1 (u1 (fun x => -x) (pc + 1) ls st)
  | .i2b => chk len 1 (u1 (fun x => x.toInt8.toInt32) (pc + 1) ls st)
  | .i2c => chk len 1 (u1 (fun x => x.toUInt32.toUInt16.toUInt32.toInt32) (pc + 1) ls st)
  | .ladd => chk len 1 (l2 (fun x y => x + y) (pc + 1) ls st)
  | .lsub => chk len 1 (l2 (fun x y => x - y) (pc + 1) ls st)
  | .lmul => chk len 1 (l2 (fun x y => x * y) (pc + 1) ls st)
  | .land => chk len 1 (l2 (fun x y => x &&& y) (pc + 1) ls st)
  | .lor => chk len 1 (l2 (fun x y => x ||| y) (pc + 1) ls st)
  | .lxor => chk len 1 (l2 (fun x y => x ^^^ y) (pc + 1) ls st)
  | .lshl => chk len 1 (lsh (fun x y => x <<< (y.toInt64 &&& 63)) (pc + 1) ls st)
  | .lshr => chk len 1 (lsh (fun x y => x >>> (y.toInt64 &&& 63)) (pc + 1) ls st)
  | .lushr => chk len 1 (lsh XT.ushrL (pc + 1) ls st)
  | .lneg => chk len 1 (match st with | .long x :: r => some (pc + 1, ls, .long (-x) :: r) | _ => none)
  | .i2l => chk len 1 (match st with | .int x :: r => some (pc + 1, ls, .long x.toInt64 :: r) | _ => none)
  | .l2i => chk len 1 (match st with | .long x :: r => some (pc + 1, ls, .int x.toInt32 :: r) | _ => none)
  | .lcmp => chk len 1 (match st with | .long y :: .long x :: r => some (pc + 1, ls, .int (XT.cmpL x y) :: r) | _ => none)
  | .iinc i cst => chk len 3 (match ls[i]? with | some (.val (.int x)) => (stl ls i (.int (x + Int32.ofInt cst))).map fun l' => (pc + 3, l', st) | _ => none)
  | .dup => chk len 1 (match st with | x :: r => if x.category = 1 then some (pc + 1, ls, x :: x :: r) else none | _ => none)
  | .dup2 => chk len 1 (match st with
      | .long x :: r => some (pc + 1, ls, .long x :: .long x :: r)
      | x :: y :: r => if x.category = 1 ∧ y.category = 1 then some (pc + 1, ls, x :: y :: x :: y :: r) else none
      | _ => none)
  | .pop => chk len 1 (match st with | x :: r => if x.category = 1 then some (pc + 1, ls, r) else none | _ => none)
  | .goto o => chk len 3 ((jmp pc o).map fun q => (q, ls, st))
  | .ifCond cd o => chk len 3 (match st with | .int x :: r => br (ifCond.holds cd x) pc o ls r | _ => none)
  | .if_icmp cd o => chk len 3 (match st with | .int y :: .int x :: r => br (if_icmp.holds cd x y) pc o ls r | _ => none)
  | .tableswitch dflt low high offs => sw pc dflt low high offs ls st
  | _ => none
abbrev HR := Option (Nat × List Value × AHeap)
def putv : FieldType → Value → Option Value
  | .int, .int x => some (.int x)
  | .boolean, .int x => some (.int (nar .boolean x))
  | .byte, .int x => some (.int (nar .byte x))
  | .char, .int x => some (.int (nar .char x))
  | .short, .int x => some (.int (nar .short x))
  | .long, .long x => some (.long x)
  | .array _, .ref a => some (.ref a)
  | _, _ => none
def dflt (q : String × String) : Value := match parseFieldDescriptor q.2 with | some ty => defaultValue ty | none => .null
def hGet (ws : Ws) (own : String) (i pc : Nat) (H : AHeap) : List Value → HR
  | .ref a :: r =>
    match gfR ws own i, H[a]? with
    | some (C, j), some (.object C', vs) => if C = C' then (vs[j]?).map fun v => (pc + 3, v :: r, H) else none
    | _, _ => none
  | _ => none
def hPut (ws : Ws) (k : Nat) (own mn : String) (i pc : Nat) (H : AHeap) : List Value → HR
  | v :: .ref a :: r =>
    match pfR ws own mn i, H[a]? with
    | some (C, j, ty), some (.object C', vs) => if C = C' ∧ k ≤ a ∧ j < vs.length then (putv ty v).map fun v' => (pc + 3, r, H.set a (.object C', vs.set j v')) else none
    | _, _ => none
  | _ => none
def hNew (ws : Ws) (own : String) (i pc : Nat) (H : AHeap) (st : List Value) : HR :=
  match rCls ws own i with
  | some C => if (rInst ws C).isSome = true ∧ hasInit ws C = true then some (pc + 3, .ref H.length :: st, H ++ [(.object C, (olay ws C).map dflt)]) else none
  | none => none
def hNewA (ws : Ws) (aty : ArrayType) (pc : Nat) (H : AHeap) : List Value → HR
  | .int n :: r => if hasArr ws (newarray.typeOf aty) = true ∧ ¬ n < 0 ∧ n.toNatClampNeg * 8 ≤ 536870912 then
      some (pc + 2, .ref H.length :: r, H ++ [(.array (newarray.typeOf aty), List.replicate n.toNatClampNeg (defaultValue (newarray.typeOf aty)))]) else none
  | _ => none
def hLd (ok : FieldType → Bool) (pc : Nat) (H : AHeap) : List Value → HR
  | .int j :: .ref a :: r =>
    match H[a]? with
    | some (.array ty, vs) => if ok ty = true ∧ ¬ j < 0 then (vs[j.toNatClampNeg]?).map fun v => (pc + 1, v :: r, H) else none
    | _ => none
  | _ => none
def hSt (ok : FieldType → Bool) (k pc : Nat) (H : AHeap) : List Value → HR
  | v :: .int j :: .ref a :: r =>
    match H[a]? with
    | some (.array ty, vs) => if ok ty = true ∧ k ≤ a ∧ ¬ j < 0 ∧ j.toNatClampNeg < vs.length then (putv ty v).map fun v' => (pc + 1, r, H.set a (.array ty, vs.set j.toNatClampNeg v')) else none
    | _ => none
  | _ => none
def hLen (pc : Nat) (H : AHeap) : List Value → HR
  | .ref a :: r =>
    match H[a]? with
    | some (.array _, vs) => some (pc + 1, .int vs.length.toInt32 :: r, H)
    | _ => none
  | _ => none
def okT (t u : FieldType) : Bool := decide (u = t)
def okB (u : FieldType) : Bool := decide (u = .byte) || decide (u = .boolean)
def hstep (ws : Ws) (k : Nat) (y : MethodName) (ins : Instr) (len pc : Nat) (st : List Value) (H : AHeap) : HR :=
  match ins with
  | .getfield i => chk len 3 (hGet ws y.cls i pc H st)
  | .putfield i => chk len 3 (hPut ws k y.cls y.name i pc H st)
  | .new i => chk len 3 (hNew ws y.cls i pc H st)
  | .newarray aty => chk len 2 (hNewA ws aty pc H st)
  | .iaload => chk len 1 (hLd (okT .int) pc H st)
  | .caload => chk len 1 (hLd (okT .char) pc H st)
  | .laload => chk len 1 (hLd (okT .long) pc H st)
  | .baload => chk len 1 (hLd okB pc H st)
  | .iastore => chk len 1 (hSt (okT .int) k pc H st)
  | .castore => chk len 1 (hSt (okT .char) k pc H st)
  | .lastore => chk len 1 (hSt (okT .long) k pc H st)
  | .bastore => chk len 1 (hSt okB k pc H st)
  | .arraylength => chk len 1 (hLen pc H st)
  | .ldc i => chk len 2 ((rCon ws y.cls i).map fun v => (pc + 2, .int v :: st, H))
  | .ldc_w i => chk len 3 ((rCon ws y.cls i).map fun v => (pc + 3, .int v :: st, H))
  | .ldc2_w i => chk len 3 ((rConL ws y.cls i).map fun v => (pc + 3, .long v :: st, H))
  | _ => none
def ent : List Value → List Slot
  | [] => []
  | v :: r => if v.category = 2 then .val v :: .second :: ent r else .val v :: ent r
def entry (as : List Value) (mx : Nat) : List Slot := ent as ++ List.replicate (mx - (ent as).length) .unset
def wsum (st : List Value) : Nat := (st.map fun v => v.category).sum
abbrev Dn := List (MethodName × Nat × Nat)
def dnOf (dn : Dn) (y : MethodName) : Option (Nat × Nat) := dn.findSome? fun q => if q.1 = y then some q.2 else none
/-- what a methodref says: callee, its code, max_locals, return, number of parameters, slack for what lies under -/
def cR (ws : Ws) (dn : Dn) (y : MethodName) (i : Nat) : Option (MethodName × ByteArray × Nat × Option FieldType × Nat × Nat) :=
  match rMth ws y.cls i with
  | none => none
  | some y' =>
    match rCode ws y', dnOf dn y', dnOf dn y, parseMethodDescriptor y'.desc with
    | some (b, mx, r), some (f', l'), some (f, l), some sig =>
      if hasInit ws y'.cls = true ∧ Jvm.plainName y'.cls = true ∧ y'.cls ≠ "java/lang/invoke/MethodHandle" ∧ y'.cls ≠ "java/lang/invoke/VarHandle" ∧ f' + 1 ≤ f ∧ mx + 11 + l' ≤ l then
        some (y', b, mx, r, sig.parameters.length, l - (mx + 11 + l')) else none
    | _, _, _, _ => none
def sR (ws : Ws) (dn : Dn) (y : MethodName) (i : Nat) : Option (MethodName × ByteArray × Nat × Option FieldType × Nat × Nat) :=
  match cR ws dn y i with
  | some q => if hasStat ws q.1 = true then some q else none
  | none => none
def nR (ws : Ws) (dn : Dn) (y : MethodName) (i : Nat) : Option (MethodName × ByteArray × Nat × Option FieldType × Nat × Nat) :=
  match cR ws dn y i with
  | some q => if q.1.name = "<init>" ∧ hasIM ws q.1 = true ∧ q.2.2.2.1 = none then some q else none
  | none => none
/-- the first: is it private? -/
def vR (ws : Ws) (dn : Dn) (y : MethodName) (i : Nat) : Option (Bool × MethodName × ByteArray × Nat × Option FieldType × Nat × Nat) :=
  match cR ws dn y i with
  | some q => if hasIM ws q.1 = true then
      (if hasPriv ws q.1 = true ∧ (rInst ws q.1.cls).isSome = true then some (true, q) else if hasDecl ws q.1 = true ∧ hasSel ws q.1 = true then some (false, q) else none) else none
  | none => none
/-- Object.<init>: how many words may lie under it -/
def oR (ws : Ws) (dn : Dn) (y : MethodName) (i : Nat) : Option Nat :=
  match rMth ws y.cls i, rCode ws Lib.objectInit, dnOf dn y with
  | some y', some (b, mx, r), some (f, l) =>
    if y' = Lib.objectInit ∧ hasIM ws Lib.objectInit = true ∧ b.data = #[0xb1] ∧ mx = 1 ∧ r = none ∧ 1 ≤ f ∧ 12 ≤ l then some (l - 12) else none
  | _, _, _ => none
abbrev Call := MethodName × ByteArray × Option FieldType × List Slot × List Value
/-- returns and calls -/
def cstep (ws : Ws) (dn : Dn) (y : MethodName) (ret : Option FieldType) (ins : Instr) (len pc : Nat) (ls : List Slot) (st : List Value) (H : AHeap) : Option (Option Value ⊕ (Nat × List Slot × List Value × AHeap) ⊕ Call) :=
  match ins with
  | .ireturn => chk len 1 (match st, ret with
      | .int z :: _, some t => if t = .int ∨ t = .boolean ∨ t = .byte ∨ t = .char ∨ t = .short then some (.inl (some (.int (nar t z)))) else none
      | _, _ => none)
  | .lreturn => chk len 1 (match st, ret with
      | [.long z], some .long => some (.inl (some (.long z)))
      | _, _ => none)
  | .return_ => chk len 1 (match st, ret with
      | [], none => some (.inl none)
      | _, _ => none)
  | .invokestatic i => chk len 3 (match sR ws dn y i with
      | some (y', b, mx, r, na, sl) =>
        if na ≤ st.length ∧ wsum (st.drop na) ≤ sl ∧ (ent (st.take na).reverse).length ≤ mx then
          some (.inr (.inr (y', b, r, entry (st.take na).reverse mx, st.drop na)))
        else none
      | none => none)
  | .invokespecial i => chk len 3 (match oR ws dn y i with
      | some sl => (match st with
          | .ref _ :: r => if wsum r ≤ sl then some (.inr (.inl (pc + 3, ls, r, H))) else none
          | _ => none)
      | none => match nR ws dn y i with
        | some (y', b, mx, r, na, sl) =>
          (match st.drop na with
          | .ref a :: rest =>
            if wsum rest ≤ sl ∧ (ent (.ref a :: (st.take na).reverse)).length ≤ mx ∧ na ≤ st.length then
              some (.inr (.inr (y', b, r, entry (.ref a :: (st.take na).reverse) mx, rest)))
            else none
          | _ => none)
        | none => none)
  | .invokevirtual i => chk len 3 (match vR ws dn y i with
      | some (pv, y', b, mx, r, na, sl) =>
        (match st.drop na with
        | .ref a :: rest =>
          (match H[a]? with
          | some (.object C, _) =>
            if (pv = true ∨ C = y'.cls) ∧ wsum rest ≤ sl ∧ (ent (.ref a :: (st.take na).reverse)).length ≤ mx ∧ na ≤ st.length then
              some (.inr (.inr (y', b, r, entry (.ref a :: (st.take na).reverse) mx, rest)))
            else none
          | _ => none)
        | _ => none)
      | none => none)
  | _ => none
/-- what the machine does next: it returns, it steps, it calls -/
def act (ws : Ws) (dn : Dn) (k : Nat) (y : MethodName) (bytes : ByteArray) (ret : Option FieldType) (pc : Nat) (ls : List Slot) (st : List Value) (H : AHeap) : Option (Option Value ⊕ (Nat × List Slot × List Value × AHeap) ⊕ Call) :=
  match decode bytes pc with
  | .error _ => none
  | .ok (ins, len) =>
    match xstep ins len pc ls st with
    | some q => some (.inr (.inl (q.1, q.2.1, q.2.2, H)))
    | none => match hstep ws k y ins len pc st H with
      | some q => some (.inr (.inl (q.1, ls, q.2.1, q.2.2)))
      | none => cstep ws dn y ret ins len pc ls st H
def run (ws : Ws) (dn : Dn) (k : Nat) : Nat → MethodName → ByteArray → Option FieldType → Nat → List Slot → List Value → AHeap → Option (Option Value × AHeap)
  | 0, _, _, _, _, _, _, _ => none
  | n + 1, y, bytes, ret, pc, ls, st, H =>
    match act ws dn k y bytes ret pc ls st H with
    | none => none
    | some (.inl v) => some (v, H)
    | some (.inr (.inl (pc', ls', st', H'))) => run ws dn k n y bytes ret pc' ls' st' H'
    | some (.inr (.inr (y', b, r, en, rest))) =>
      match run ws dn k n y' b r 0 en [] H with
      | some (v, H1) => run ws dn k n y bytes ret (pc + 3) ls (v.toList ++ rest) H1
      | none => none
end Jvm.Own
namespace Jvm.Own
open Sem ClassFile Op Lib Jvm.Stand Jvm.Free Jvm.LawKit Jvm.RoadKit
/-! OWN 3: the abstract machine's plain steps are the machine's -/
def ren (f : Nat → Nat) : Value → Value
  | .ref a => .ref (f a)
  | v => v
def renS (f : Nat → Nat) : Slot → Slot
  | .val v => .val (ren f v)
  | s => s
abbrev fr (f : Nat → Nat) (m : MethodId) (pc : Nat) (ls : List Slot) (st : List Value) : JFrame := mkF m pc (ls.map (renS f)).toArray (st.map (ren f))
theorem ren_cat (f : Nat → Nat) (v : Value) : (ren f v).category = v.category := by cases v <;> rfl
theorem ren_isRef (f : Nat → Nat) (v : Value) : (ren f v).isRef = v.isRef := by cases v <;> rfl
theorem isI_int {v : Value} (h : isI v = true) : ∃ x, v = .int x := by cases v <;> first | exact ⟨_, rfl⟩ | cases h
theorem isL_long {v : Value} (h : isL v = true) : ∃ x, v = .long x := by cases v <;> first | exact ⟨_, rfl⟩ | cases h
theorem chk_some {α : Type} {a b : Nat} {x : Option α} {r : α} (h : chk a b x = some r) : a = b ∧ x = some r := by
  unfold chk at h
  split at h
  · exact ⟨by assumption, h⟩
  · cases h
theorem loc_get {f : Nat → Nat} {ls : List Slot} {i : Nat} {s : Slot} (h : ls[i]? = some s) : ((ls.map (renS f)).toArray)[i]? = some (renS f s) := by
  rw [List.getElem?_toArray, List.getElem?_map, h]; rfl
theorem setAt_ren (f : Nat → Nat) (l : Array Slot) (i : Nat) (x : Slot) : setAt (l.map (renS f)) i (renS f x) = (setAt l i x).map fun a => a.map (renS f) := by
  unfold setAt
  rw [Array.size_map]
  split
  · rw [Option.map_some, Array.map_setIfInBounds]
  · rfl
theorem storeSelf_ren (f : Nat → Nat) (l : Array Slot) (i : Nat) (v : Value) : storeSelf (l.map (renS f)) i (ren f v) = (storeSelf l i v).map fun a => a.map (renS f) := by
  have h0 : setAt (l.map (renS f)) i (.val (ren f v)) = _ := setAt_ren f l i (.val v)
  simp only [storeSelf, h0, ren_cat]
  cases setAt l i (.val v) with
  | none => rfl
  | some l1 =>
    simp only [Option.map_some, Option.bind_eq_bind, Option.bind_some, bind_pure_comp]
    split
    · rw [Array.getElem?_map]
      cases l1[i + 1]? with
      | none => rfl
      | some s =>
        simp only [Option.map_some, Option.bind_some]
        cases s with
        | unset => exact setAt_ren f l1 (i + 1) .second
        | second => exact setAt_ren f l1 (i + 1) .second
        | val w =>
          simp only [renS, ren_cat]
          split
          · have h1 : setAt (l1.map (renS f)) (i + 2) .unset = _ := setAt_ren f l1 (i + 2) .unset
            rw [h1]
            cases setAt l1 (i + 2) .unset with
            | none => rfl
            | some l2 => exact setAt_ren f l2 (i + 1) .second
          · exact setAt_ren f l1 (i + 1) .second
    · rfl
theorem storeLocals_ren (f : Nat → Nat) (l : Array Slot) (i : Nat) (v : Value) : storeLocals (l.map (renS f)) i (ren f v) = (storeLocals l i v).map fun a => a.map (renS f) := by
  simp only [storeLocals, Array.getElem?_map]
  cases l[i]? with
  | none => rfl
  | some s =>
    simp only [Option.map_some, Option.bind_eq_bind, Option.bind_some]
    cases s with
    | unset => exact storeSelf_ren f l i v
    | second =>
      have h1 : setAt (l.map (renS f)) (i - 1) .unset = _ := setAt_ren f l (i - 1) .unset
      simp only [renS, h1]
      cases setAt l (i - 1) .unset with
      | none => rfl
      | some l2 => exact storeSelf_ren f l2 i v
    | val w =>
      simp only [renS, ren_cat]
      split
      · have h1 : setAt (l.map (renS f)) (i + 1) .unset = _ := setAt_ren f l (i + 1) .unset
        rw [h1]
        cases setAt l (i + 1) .unset with
        | none => rfl
        | some l2 => exact storeSelf_ren f l2 i v
      · exact storeSelf_ren f l i v
theorem stl_ren {f : Nat → Nat} {ls l' : List Slot} {i : Nat} {v : Value} (h : stl ls i v = some l') : storeLocals (ls.map (renS f)).toArray i (ren f v) = some (l'.map (renS f)).toArray := by
  unfold stl at h
  obtain ⟨a, ha, rfl⟩ := Option.map_eq_some_iff.mp h
  have := storeLocals_ren f ls.toArray i v
  rw [ha] at this
  rw [← List.map_toArray, this]
  simp [← Array.toList_inj]
theorem setAt_size {l l' : Array Slot} {i : Nat} {x : Slot} (h : setAt l i x = some l') : l'.size = l.size := by
  unfold setAt at h
  split at h
  · cases h; simp
  · cases h
theorem storeSelf_size {l l' : Array Slot} {i : Nat} {v : Value} (h : storeSelf l i v = some l') : l'.size = l.size := by
  simp only [storeSelf, Option.bind_eq_bind, Option.bind_eq_some_iff] at h
  obtain ⟨l1, h1, h⟩ := h
  have e1 := setAt_size h1
  split at h
  · obtain ⟨s, -, h⟩ := Option.bind_eq_some_iff.mp h
    split at h
    · split at h
      · obtain ⟨l2, h2, h⟩ := Option.bind_eq_some_iff.mp h
        rw [setAt_size h, setAt_size h2, e1]
      · rw [setAt_size h, e1]
    · rw [setAt_size h, e1]
  · cases h; exact e1
theorem storeLocals_size {l l' : Array Slot} {i : Nat} {v : Value} (h : storeLocals l i v = some l') : l'.size = l.size := by
  simp only [storeLocals, Option.bind_eq_bind, Option.bind_eq_some_iff] at h
  obtain ⟨s, -, h⟩ := h
  split at h
  · obtain ⟨l2, h2, h⟩ := Option.bind_eq_some_iff.mp h
    rw [storeSelf_size h, setAt_size h2]
  · split at h
    · obtain ⟨l2, h2, h⟩ := Option.bind_eq_some_iff.mp h
      rw [storeSelf_size h, setAt_size h2]
    · exact storeSelf_size h
  · exact storeSelf_size h
theorem stl_size {ls l' : List Slot} {i : Nat} {v : Value} (h : stl ls i v = some l') : l'.length = ls.length := by
  unfold stl at h
  obtain ⟨a, ha, rfl⟩ := Option.map_eq_some_iff.mp h
  have := storeLocals_size ha
  simpa using this
theorem ldV_some {p : Value → Bool} {nx i : Nat} {ls : List Slot} {st : List Value} {q : Nat × List Slot × List Value} (h : ldV p nx i ls st = some q) : ∃ v, ls[i]? = some (.val v) ∧ p v = true ∧ q = (nx, ls, v :: st) := by
  unfold ldV at h
  split at h
  · rename_i v hv
    split at h
    · cases h; exact ⟨v, hv, by assumption, rfl⟩
    · cases h
  · cases h
theorem stV_some {p : Value → Bool} {nx i : Nat} {ls : List Slot} {st : List Value} {q : Nat × List Slot × List Value} (h : stV p nx i ls st = some q) : ∃ v r l', st = v :: r ∧ p v = true ∧ stl ls i v = some l' ∧ q = (nx, l', r) := by
  unfold stV at h
  split at h
  · split at h
    · obtain ⟨l', h1, h2⟩ := Option.map_eq_some_iff.mp h
      exact ⟨_, _, l', rfl, by assumption, h1, h2.symm⟩
    · cases h
  · cases h
theorem b2_some {f : Int32 → Int32 → Int32} {nx : Nat} {ls : List Slot} {st : List Value} {q : Nat × List Slot × List Value} (h : b2 f nx ls st = some q) : ∃ x y r, st = .int y :: .int x :: r ∧ q = (nx, ls, .int (f x y) :: r) := by
  unfold b2 at h
  split at h
  · cases h; exact ⟨_, _, _, rfl, rfl⟩
  · cases h
theorem d2_some {f : Int32 → Int32 → Int32} {nx : Nat} {ls : List Slot} {st : List Value} {q : Nat × List Slot × List Value} (h : d2 f nx ls st = some q) : ∃ x y r, st = .int y :: .int x :: r ∧ y ≠ 0 ∧ q = (nx, ls, .int (f x y) :: r) := by
  unfold d2 at h
  split at h
  · split at h
    · cases h
    · cases h; exact ⟨_, _, _, rfl, by assumption, rfl⟩
  · cases h
theorem u1_some {f : Int32 → Int32} {nx : Nat} {ls : List Slot} {st : List Value} {q : Nat × List Slot × List Value} (h : u1 f nx ls st = some q) : ∃ x r, st = .int x :: r ∧ q = (nx, ls, .int (f x) :: r) := by
  unfold u1 at h
  split at h
  · cases h; exact ⟨_, _, rfl, rfl⟩
  · cases h
theorem l2_some {f : Int64 → Int64 → Int64} {nx : Nat} {ls : List Slot} {st : List Value} {q : Nat × List Slot × List Value} (h : l2 f nx ls st = some q) : ∃ x y r, st = .long y :: .long x :: r ∧ q = (nx, ls, .long (f x y) :: r) := by
  unfold l2 at h
  split at h
  · cases h; exact ⟨_, _, _, rfl, rfl⟩
  · cases h
theorem lsh_some {f : Int64 → Int32 → Int64} {nx : Nat} {ls : List Slot} {st : List Value} {q : Nat × List Slot × List Value} (h : lsh f nx ls st = some q) : ∃ x y r, st = .int y :: .long x :: r ∧ q = (nx, ls, .long (f x y) :: r) := by
  unfold lsh at h
  split at h
  · cases h; exact ⟨_, _, _, rfl, rfl⟩
  · cases h
theorem jmp_some {pc q : Nat} {o : Int} (h : jmp pc o = some q) : 0 ≤ (pc : Int) + o ∧ ((pc : Int) + o).toNat = q := by
  unfold jmp at h
  split at h
  · cases h; exact ⟨by assumption, rfl⟩
  · cases h
theorem br_some {c : Bool} {pc : Nat} {o : Int} {ls : List Slot} {r : List Value} {q : Nat × List Slot × List Value} (h : br c pc o ls r = some q) : (c = true ∧ ∃ t, 0 ≤ (pc : Int) + o ∧ ((pc : Int) + o).toNat = t ∧ q = (t, ls, r)) ∨ (c = false ∧ q = (pc + 3, ls, r)) := by
  unfold br at h
  split at h
  · obtain ⟨t, h1, h2⟩ := Option.map_eq_some_iff.mp h
    obtain ⟨h3, h4⟩ := jmp_some h1
    exact Or.inl ⟨by assumption, t, h3, h4, h2.symm⟩
  · rename_i hc; cases h; exact Or.inr ⟨by simpa using hc, rfl⟩
section X
variable {tb : Tables} [Ours tb] {e : Env} {below : List Frame} {T target : State} {m : MethodId} {c : Code}
set_option maxHeartbeats 4000000 in
theorem xstep_sound (h : At T m c below) (hx : tb.exec = Jvm.exec) (f : Nat → Nat) {ins : Instr} {len pc : Nat} {ls : List Slot} {st : List Value} {q : Nat × List Slot × List Value}
    (hd : decode c.code pc = .ok (ins, len)) (hs : xstep ins len pc ls st = some q) (hr : Steps tb e below (T.setTop (fr f m q.1 q.2.1 q.2.2)) target) : Steps tb e below (T.setTop (fr f m pc ls st)) target := by
  unfold xstep at hs
  split at hs
  · obtain ⟨rfl, hs⟩ := chk_some hs; obtain ⟨v, h1, h2, rfl⟩ := ldV_some hs
    exact XS.aloadN h hx rfl hd (loc_get h1) (by rw [ren_isRef]; exact h2) hr
  · obtain ⟨rfl, hs⟩ := chk_some hs; obtain ⟨v, h1, h2, rfl⟩ := ldV_some hs
    exact XS.aload h hx rfl hd (loc_get h1) (by rw [ren_isRef]; exact h2) hr
  · obtain ⟨rfl, hs⟩ := chk_some hs; obtain ⟨v, h1, h2, rfl⟩ := ldV_some hs; obtain ⟨x, rfl⟩ := isI_int h2
    exact XS.iloadN h hx rfl hd (loc_get (f := f) h1) hr
  · obtain ⟨rfl, hs⟩ := chk_some hs; obtain ⟨v, h1, h2, rfl⟩ := ldV_some hs; obtain ⟨x, rfl⟩ := isI_int h2
    exact XS.iload h hx rfl hd (loc_get (f := f) h1) hr
  · obtain ⟨rfl, hs⟩ := chk_some hs; obtain ⟨v, h1, h2, rfl⟩ := ldV_some hs; obtain ⟨x, rfl⟩ := isL_long h2
    exact XT.lloadN h hx rfl hd (loc_get (f := f) h1) hr
  · obtain ⟨rfl, hs⟩ := chk_some hs; obtain ⟨v, h1, h2, rfl⟩ := ldV_some hs; obtain ⟨x, rfl⟩ := isL_long h2
    exact XT.lload h hx rfl hd (loc_get (f := f) h1) hr
  · obtain ⟨rfl, hs⟩ := chk_some hs; obtain ⟨v, r, l', rfl, h2, h3, rfl⟩ := stV_some hs
    exact XS.astoreN h hx rfl hd rfl (by rw [ren_isRef]; exact h2) (stl_ren h3) hr
  · obtain ⟨rfl, hs⟩ := chk_some hs; obtain ⟨v, r, l', rfl, h2, h3, rfl⟩ := stV_some hs
    exact XS.astore h hx rfl hd rfl (by rw [ren_isRef]; exact h2) (stl_ren h3) hr
  · obtain ⟨rfl, hs⟩ := chk_some hs; obtain ⟨v, r, l', rfl, h2, h3, rfl⟩ := stV_some hs; obtain ⟨x, rfl⟩ := isI_int h2
    exact XS.istoreN h hx rfl hd rfl (stl_ren (f := f) h3) hr
  · obtain ⟨rfl, hs⟩ := chk_some hs; obtain ⟨v, r, l', rfl, h2, h3, rfl⟩ := stV_some hs; obtain ⟨x, rfl⟩ := isI_int h2
    exact XS.istore h hx rfl hd rfl (stl_ren (f := f) h3) hr
  · obtain ⟨rfl, hs⟩ := chk_some hs; obtain ⟨v, r, l', rfl, h2, h3, rfl⟩ := stV_some hs; obtain ⟨x, rfl⟩ := isL_long h2
    exact XT.lstoreN h hx rfl hd rfl (stl_ren (f := f) h3) hr
  · obtain ⟨rfl, hs⟩ := chk_some hs; obtain ⟨v, r, l', rfl, h2, h3, rfl⟩ := stV_some hs; obtain ⟨x, rfl⟩ := isL_long h2
    exact XT.lstore h hx rfl hd rfl (stl_ren (f := f) h3) hr
  · obtain ⟨rfl, hs⟩ := chk_some hs; cases hs
    exact XS.iconst h hx rfl hd hr
  · obtain ⟨rfl, hs⟩ := chk_some hs; cases hs
    exact XS.bipush h hx rfl hd hr
  · obtain ⟨rfl, hs⟩ := chk_some hs; cases hs
    exact XS.sipush h hx rfl hd hr
  · obtain ⟨rfl, hs⟩ := chk_some hs; cases hs
    exact XT.lconst h hx rfl hd hr
  · obtain ⟨rfl, hs⟩ := chk_some hs; obtain ⟨x, y, r, rfl, rfl⟩ := b2_some hs
    exact XS.iadd h hx rfl hd rfl hr
  · obtain ⟨rfl, hs⟩ := chk_some hs; obtain ⟨x, y, r, rfl, rfl⟩ := b2_some hs
    exact XS.isub h hx rfl hd rfl hr
  · obtain ⟨rfl, hs⟩ := chk_some hs; obtain ⟨x, y, r, rfl, rfl⟩ := b2_some hs
    exact XS.imul h hx rfl hd rfl hr
  · obtain ⟨rfl, hs⟩ := chk_some hs; obtain ⟨x, y, r, rfl, rfl⟩ := b2_some hs
    exact XS.iand h hx rfl hd rfl hr
  · obtain ⟨rfl, hs⟩ := chk_some hs; obtain ⟨x, y, r, rfl, rfl⟩ := b2_some hs
    exact XT.ior h hx rfl hd rfl hr
  · obtain ⟨rfl, hs⟩ := chk_some hs; obtain ⟨x, y, r, rfl, rfl⟩ := b2_some hs
    exact XT.ixor h hx rfl hd rfl hr
  · obtain ⟨rfl, hs⟩ := chk_some hs; obtain ⟨x, y, r, rfl, rfl⟩ := b2_some hs
    exact XT.ishl h hx rfl hd rfl hr
  · obtain ⟨rfl, hs⟩ := chk_some hs; obtain ⟨x, y, r, rfl, rfl⟩ := b2_some hs
    exact XT.ishr h hx rfl hd rfl hr
  · obtain ⟨rfl, hs⟩ := chk_some hs; obtain ⟨x, y, r, rfl, rfl⟩ := b2_some hs
    exact XT.iushr h hx rfl hd rfl hr
  · obtain ⟨rfl, hs⟩ := chk_some hs; obtain ⟨x, y, r, rfl, h2, rfl⟩ := d2_some hs
    exact XS.idiv h hx rfl hd rfl h2 hr
  · obtain ⟨rfl, hs⟩ := chk_some hs; obtain ⟨x, y, r, rfl, h2, rfl⟩ := d2_some hs
    refine XS.irem h hx rfl hd rfl h2 ?_
    have q : x - x / y * y = x % y := irem_eq_mod x y
    rw [q]; exact hr
  · obtain ⟨rfl, hs⟩ := chk_some hs; obtain ⟨x, r, rfl, rfl⟩ := u1_some hs
    exact XS.ineg h hx rfl hd rfl hr
  · obtain ⟨rfl, hs⟩ := chk_some hs; obtain ⟨x, r, rfl, rfl⟩ := u1_some hs
    exact XT.i2b h hx rfl hd rfl hr
  · obtain ⟨rfl, hs⟩ := chk_some hs; obtain ⟨x, r, rfl, rfl⟩ := u1_some hs
    exact XT.i2c h hx rfl hd rfl hr
  · obtain ⟨rfl, hs⟩ := chk_some hs; obtain ⟨x, y, r, rfl, rfl⟩ := l2_some hs
    exact XT.ladd h hx rfl hd rfl hr
  · obtain ⟨rfl, hs⟩ := chk_some hs; obtain ⟨x, y, r, rfl, rfl⟩ := l2_some hs
    exact XT.lsub h hx rfl hd rfl hr
  · obtain ⟨rfl, hs⟩ := chk_some hs; obtain ⟨x, y, r, rfl, rfl⟩ := l2_some hs
    exact XT.lmul h hx rfl hd rfl hr
  · obtain ⟨rfl, hs⟩ := chk_some hs; obtain ⟨x, y, r, rfl, rfl⟩ := l2_some hs
    exact XT.land h hx rfl hd rfl hr
  · obtain ⟨rfl, hs⟩ := chk_some hs; obtain ⟨x, y, r, rfl, rfl⟩ := l2_some hs
    exact XT.lor h hx rfl hd rfl hr
  · obtain ⟨rfl, hs⟩ := chk_some hs; obtain ⟨x, y, r, rfl, rfl⟩ := l2_some hs
    exact XT.lxor h hx rfl hd rfl hr
  · obtain ⟨rfl, hs⟩ := chk_some hs; obtain ⟨x, y, r, rfl, rfl⟩ := lsh_some hs
    exact XT.lshl h hx rfl hd rfl hr
  · obtain ⟨rfl, hs⟩ := chk_some hs; obtain ⟨x, y, r, rfl, rfl⟩ := lsh_some hs
    exact XT.lshr h hx rfl hd rfl hr
  · obtain ⟨rfl, hs⟩ := chk_some hs; obtain ⟨x, y, r, rfl, rfl⟩ := lsh_some hs
    exact XT.lushr h hx rfl hd rfl hr
  · obtain ⟨rfl, hs⟩ := chk_some hs
    split at hs
    · cases hs; exact XT.lneg h hx rfl hd rfl hr
    · cases hs
  · obtain ⟨rfl, hs⟩ := chk_some hs
    split at hs
    · cases hs; exact XT.i2l h hx rfl hd rfl hr
    · cases hs
  · obtain ⟨rfl, hs⟩ := chk_some hs
    split at hs
    · cases hs; exact XT.l2i h hx rfl hd rfl hr
    · cases hs
  · obtain ⟨rfl, hs⟩ := chk_some hs
    split at hs
    · cases hs; exact XT.lcmp h hx rfl hd rfl hr
    · cases hs
  · obtain ⟨rfl, hs⟩ := chk_some hs
    split at hs
    · rename_i x h1
      obtain ⟨l', h2, rfl⟩ := Option.map_eq_some_iff.mp hs
      exact XS.iinc h hx rfl hd (loc_get (f := f) h1) (stl_ren (f := f) h2) hr
    · cases hs
  · obtain ⟨rfl, hs⟩ := chk_some hs
    split at hs
    · split at hs
      · rename_i hc; cases hs; exact XS.dup h hx rfl hd rfl (by rw [ren_cat]; exact hc) hr
      · cases hs
    · cases hs
  · obtain ⟨rfl, hs⟩ := chk_some hs
    split at hs
    · cases hs; exact XT.dup2L h hx rfl hd rfl hr
    · split at hs
      · rename_i hc; cases hs; exact XT.dup2 h hx rfl hd rfl (by rw [ren_cat]; exact hc.1) (by rw [ren_cat]; exact hc.2) hr
      · cases hs
    · cases hs
  · obtain ⟨rfl, hs⟩ := chk_some hs
    split at hs
    · split at hs
      · rename_i hc; cases hs; exact XT.pop h hx rfl hd rfl (by rw [ren_cat]; exact hc) hr
      · cases hs
    · cases hs
  · obtain ⟨rfl, hs⟩ := chk_some hs
    obtain ⟨t, h1, rfl⟩ := Option.map_eq_some_iff.mp hs
    obtain ⟨h2, h3⟩ := jmp_some h1
    exact XS.goto h hx rfl rfl hd h2 h3 hr
  · obtain ⟨rfl, hs⟩ := chk_some hs
    split at hs
    · rcases br_some hs with ⟨hc, t, h1, h2, rfl⟩ | ⟨hc, rfl⟩
      · exact XS.ifYes h hx rfl rfl hd rfl hc h1 h2 hr
      · exact XS.ifNo h hx rfl hd rfl hc hr
    · cases hs
  · obtain ⟨rfl, hs⟩ := chk_some hs
    split at hs
    · rcases br_some hs with ⟨hc, t, h1, h2, rfl⟩ | ⟨hc, rfl⟩
      · exact XS.icmpYes h hx rfl rfl hd rfl hc h1 h2 hr
      · exact XS.icmpNo h hx rfl hd rfl hc hr
    · cases hs
  · unfold sw at hs
    split at hs
    · split at hs
      · rename_i hc
        obtain ⟨t, h1, rfl⟩ := Option.map_eq_some_iff.mp hs
        obtain ⟨h2, h3⟩ := jmp_some h1
        exact XS.tswOut h hx rfl rfl hd rfl hc h2 h3 hr
      · rename_i hc
        split at hs
        · rename_i o ho
          obtain ⟨t, h1, rfl⟩ := Option.map_eq_some_iff.mp hs
          obtain ⟨h2, h3⟩ := jmp_some h1
          exact XS.tswIn h hx rfl rfl hd rfl hc ho h2 h3 hr
        · cases hs
    · cases hs
  · cases hs
end X
theorem xstep_size {ins : Instr} {len pc : Nat} {ls : List Slot} {st : List Value} {q : Nat × List Slot × List Value} (hs : xstep ins len pc ls st = some q) : q.2.1.length = ls.length := by
  unfold xstep at hs
  split at hs
  all_goals first
    | (obtain ⟨rfl, hs⟩ := chk_some hs; obtain ⟨v, h1, h2, rfl⟩ := ldV_some hs; rfl)
    | (obtain ⟨rfl, hs⟩ := chk_some hs; obtain ⟨v, r, l', rfl, h2, h3, rfl⟩ := stV_some hs; exact stl_size h3)
    | (obtain ⟨rfl, hs⟩ := chk_some hs; cases hs; rfl)
    | (obtain ⟨rfl, hs⟩ := chk_some hs; obtain ⟨x, y, r, rfl, rfl⟩ := b2_some hs; rfl)
    | (obtain ⟨rfl, hs⟩ := chk_some hs; obtain ⟨x, y, r, rfl, h2, rfl⟩ := d2_some hs; rfl)
    | (obtain ⟨rfl, hs⟩ := chk_some hs; obtain ⟨x, r, rfl, rfl⟩ := u1_some hs; rfl)
    | (obtain ⟨rfl, hs⟩ := chk_some hs; obtain ⟨x, y, r, rfl, rfl⟩ := l2_some hs; rfl)
    | (obtain ⟨rfl, hs⟩ := chk_some hs; obtain ⟨x, y, r, rfl, rfl⟩ := lsh_some hs; rfl)
    | (obtain ⟨rfl, hs⟩ := chk_some hs; split at hs <;> first | (cases hs; rfl) | (cases hs; done))
    | (obtain ⟨rfl, hs⟩ := chk_some hs; split at hs <;> first | (obtain ⟨l', h2, rfl⟩ := Option.map_eq_some_iff.mp hs; exact stl_size h2) | (cases hs; done))
    | (obtain ⟨rfl, hs⟩ := chk_some hs; split at hs <;> first | (split at hs <;> first | (cases hs; rfl) | (cases hs; done)) | (cases hs; rfl) | (cases hs; done))
    | (obtain ⟨rfl, hs⟩ := chk_some hs; obtain ⟨t, h1, rfl⟩ := Option.map_eq_some_iff.mp hs; rfl)
    | (obtain ⟨rfl, hs⟩ := chk_some hs; split at hs <;> first | (rcases br_some hs with ⟨hc, t, h1, h2, rfl⟩ | ⟨hc, rfl⟩ <;> rfl) | (cases hs; done))
    | (unfold sw at hs; split at hs <;> first | (cases hs; done) | (split at hs <;> first | (obtain ⟨t, h1, rfl⟩ := Option.map_eq_some_iff.mp hs; rfl) | (split at hs <;> first | (obtain ⟨t, h1, rfl⟩ := Option.map_eq_some_iff.mp hs; rfl) | (cases hs; done))))
    | (cases hs; done)
end Jvm.Own
namespace Jvm.Own
open Sem ClassFile Op Lib Jvm.Stand Jvm.Free Jvm.LawKit Jvm.RoadKit
/-! OWN 4: the heap's steps -/
def adr (k sa n0 i : Nat) : Nat := if i < k then sa else n0 + (i - k)
def SimO (Z : State) (ws : Ws) (f : Nat → Nat) (h : Heap) (a : Addr) : FieldType × List Value → Prop
  | (.object C, vs) => Exa Z h a C ∧ ∀ n t j, fidx ws C n t = some j → ∃ v, vs[j]? = some v ∧ Fld Z h a C n t (ren f v)
  | (.array ty, vs) => ∃ c : Cell, Arr Z h a c ty ∧ c.slots = (vs.map (ren f)).toArray
  | _ => False
def Sim (Z : State) (ws : Ws) (k sa n0 : Nat) (H : AHeap) (h : Heap) : Prop :=
  h.size = n0 + (H.length - k) ∧ k ≤ H.length ∧ k ≤ 1 ∧ (1 ≤ k → sa < n0) ∧ ∀ i o, H[i]? = some o → SimO Z ws (adr k sa n0) h (adr k sa n0 i) o
def cost (ws : Ws) : FieldType × List Value → Nat
  | (.object C, _) => (rInst ws C).getD 0
  | (_, vs) => vs.length
def tot (ws : Ws) (H : AHeap) : Nat := (H.map (cost ws)).sum
theorem adr_inj {k sa n0 i j : Nat} (hk : k ≤ 1) (hs : 1 ≤ k → sa < n0) (e : adr k sa n0 i = adr k sa n0 j) : i = j := by
  unfold adr at e; split at e <;> split at e <;> omega
theorem adr_ge {k sa n0 a : Nat} (h : k ≤ a) : n0 ≤ adr k sa n0 a := by
  unfold adr; rw [if_neg (by omega)]; omega
theorem tot_app (ws : Ws) (H : AHeap) (o : FieldType × List Value) : tot ws (H ++ [o]) = tot ws H + cost ws o := by simp [tot]
theorem tot_set {ws : Ws} : ∀ {H : AHeap} {a : Nat} {o o' : FieldType × List Value}, H[a]? = some o → cost ws o' = cost ws o → tot ws (H.set a o') = tot ws H
  | [], _, _, _, h, _ => by cases h
  | x :: r, 0, o, o', h, e => by
    simp only [List.getElem?_cons_zero, Option.some.injEq] at h; subst h
    simp [tot, e]
  | x :: r, a + 1, o, o', h, e => by
    have := tot_set (ws := ws) (H := r) (a := a) (o := o) (o' := o') (by simpa using h) e
    simp only [tot, List.set_cons_succ, List.map_cons, List.sum_cons] at this ⊢
    rw [this]
theorem ren_dflt (f : Nat → Nat) (ty : FieldType) : ren f (defaultValue ty) = defaultValue ty := by cases ty <;> rfl
section Facts
variable {Z : State} {ws : Ws} {f : Nat → Nat} {h h' : Heap} {a b : Addr} {o : FieldType × List Value} {sl : Nat} {v : Value}
theorem SimO.ext (E : Ext h h') (S : SimO Z ws f h a o) : SimO Z ws f h' a o := by
  unfold SimO at S ⊢
  split at S
  · exact ⟨S.1.ext E, fun n t j q => by obtain ⟨v, h1, h2⟩ := S.2 n t j q; exact ⟨v, h1, h2.ext E⟩⟩
  · obtain ⟨c, h1, h2⟩ := S; exact ⟨c, h1.ext E, h2⟩
  · exact S.elim
theorem SimO.other (W : Wr h h' b sl v) (ne : a ≠ b) (S : SimO Z ws f h a o) : SimO Z ws f h' a o := by
  unfold SimO at S ⊢
  split at S
  · exact ⟨S.1.wr W, fun n t j q => by obtain ⟨v, h1, h2⟩ := S.2 n t j q; exact ⟨v, h1, h2.other W (Or.inl ne)⟩⟩
  · obtain ⟨c, h1, h2⟩ := S; exact ⟨c, h1.other W ne, h2⟩
  · exact S.elim
theorem Sim.push {k sa n0 : Nat} {H : AHeap} (S : Sim Z ws k sa n0 H h) (E : Ext h h') (hz : h'.size = h.size + 1) (O : SimO Z ws (adr k sa n0) h' h.size o) : Sim Z ws k sa n0 (H ++ [o]) h' := by
  obtain ⟨h1, h2, h3, h4, h5⟩ := S
  refine ⟨by rw [hz, h1, List.length_append, List.length_singleton]; omega, by rw [List.length_append]; omega, h3, h4, fun i o' q => ?_⟩
  rcases Nat.lt_trichotomy i H.length with g | g | g
  · rw [List.getElem?_append_left g] at q; exact (h5 i o' q).ext E
  · subst g
    rw [List.getElem?_append_right (Nat.le_refl _), Nat.sub_self] at q
    cases q
    have e : adr k sa n0 H.length = h.size := by unfold adr; rw [if_neg (by omega), h1]
    rw [e]; exact O
  · rw [List.getElem?_eq_none (by simp; omega)] at q; cases q
theorem Sim.next {k sa n0 : Nat} {H : AHeap} (S : Sim Z ws k sa n0 H h) : h.size = adr k sa n0 H.length := by
  obtain ⟨h1, h2, -⟩ := S
  unfold adr; rw [if_neg (by omega), h1]
theorem Wr.upd {k sa n0 i : Nat} {H : AHeap} {o' : FieldType × List Value} (S : Sim Z ws k sa n0 H h) (W : Wr h h' (adr k sa n0 i) sl v) (O : SimO Z ws (adr k sa n0) h' (adr k sa n0 i) o') : Sim Z ws k sa n0 (H.set i o') h' := by
  obtain ⟨h1, h2, h3, h4, h5⟩ := S
  refine ⟨by rw [W.size, h1, List.length_set], by rw [List.length_set]; exact h2, h3, h4, fun j q hq => ?_⟩
  by_cases e : i = j
  · subst e
    rw [List.getElem?_set_self' ] at hq
    cases hi : H[i]? with
    | none => rw [hi] at hq; cases hq
    | some x => rw [hi] at hq; cases hq; exact O
  · rw [List.getElem?_set_ne e] at hq
    exact (h5 j q hq).other W fun g => e (adr_inj h3 h4 g).symm
end Facts
theorem putv_ok {ty : FieldType} {v v' : Value} (f : Nat → Nat) (h : putv ty v = some v') : narrow ty (ren f v) = ren f v' ∧ fits ty (ren f v') = true := by
  unfold putv at h
  split at h
  · cases h; exact ⟨rfl, rfl⟩
  · cases h; exact ⟨rfl, fits_nar_bool _⟩
  · cases h; exact ⟨rfl, fits_nar_byte _⟩
  · cases h; exact ⟨rfl, fits_nar_char _⟩
  · cases h; exact ⟨rfl, fits_nar_short _⟩
  · cases h; exact ⟨rfl, rfl⟩
  · cases h; exact ⟨rfl, rfl⟩
  · cases h
theorem size_set (c : Cell) (j : Nat) (v : Value) (f : Nat → Nat) {vs : List Value} {v' : Value} (e : c.slots = (vs.map (ren f)).toArray) (q : v = ren f v') : (c.setSlot j v).slots = ((vs.set j v').map (ren f)).toArray := by
  subst q
  show c.slots.setIfInBounds j (ren f v') = _
  rw [e, List.setIfInBounds_toArray, List.map_set]
section H
variable {p : Program} {l : Launch} {e : Env} {R : Room} {s : State} {m : MethodId} {args : Array Value} {below : List Frame} {meth : Method} {c : Code} {T : State} {locs : List Loc} {cells slots : Nat}
  {Z : State} {a0 : Array Value} {ws : Ws} {k sa n0 : Nat} {y : MethodName} {pc : Nat} {ls : List Slot} {st : List Value} {H : AHeap}
/-- the point behind one step -/
def Beh (p : Program) (l : Launch) (e : Env) (R : Room) (s : State) (m : MethodId) (args : Array Value) (below : List Frame) (meth : Method) (c : Code) (T : State) (Z : State) (ws : Ws) (k sa n0 cells slots : Nat) (H : AHeap) (g : JFrame) (pc' : Nat) (ls' : List Slot) (st' : List Value) (H' : AHeap) : Prop :=
  ∃ T' locs', Stand p l e R s m args below meth c T' locs' (cells + (H'.length - H.length)) (slots + (tot ws H' - tot ws H)) ∧ Sim Z ws k sa n0 H' T'.heap ∧ Fr n0 locs' ∧
    ∀ target, Steps p.tables e below (T'.setTop (fr (adr k sa n0) m pc' ls' st')) target → Steps p.tables e below (T.setTop g) target
theorem Beh.stay {g : JFrame} {pc' : Nat} {st' : List Value} {T' : State} (X : Stand p l e R s m args below meth c T' locs cells slots) (S : Sim Z ws k sa n0 H T'.heap) (N : Fr n0 locs)
    (h : ∀ target, Steps p.tables e below (T'.setTop (fr (adr k sa n0) m pc' ls st')) target → Steps p.tables e below (T.setTop g) target) : Beh p l e R s m args below meth c T Z ws k sa n0 cells slots H g pc' ls st' H :=
  ⟨T', locs, by rw [Nat.sub_self, Nat.sub_self]; exact X, S, N, h⟩
theorem hGet_sound (hw : ∀ d ∈ ws, d.before a0 Z = true) (X : Stand p l e R s m args below meth c T locs cells slots) (hx : p.tables.exec = Jvm.exec) (hZ : Z.Warmed39 s.vm) (hown : s.vm.findClass y.cls = some m.cls)
    {i : Nat} (hd : decode c.code pc = .ok (.getfield i, 3)) {q : Nat × List Value × AHeap} (hs : hGet ws y.cls i pc H st = some q) (S : Sim Z ws k sa n0 H T.heap) (N : Fr n0 locs) :
    Beh p l e R s m args below meth c T Z ws k sa n0 cells slots H (fr (adr k sa n0) m pc ls st) q.1 ls q.2.1 q.2.2 := by
  unfold hGet at hs
  split at hs
  · rename_i a r
    split at hs
    · rename_i C j C' vs q1 q2
      split at hs
      · rename_i hC; subst hC
        obtain ⟨v, hv, rfl⟩ := Option.map_eq_some_iff.mp hs
        obtain ⟨n, t, r1, r2⟩ := gfR_some q1
        obtain ⟨v', hv', F⟩ := (S.2.2.2.2 a _ q2).2 n t j r2
        cases hv.symm.trans hv'
        obtain ⟨T', X', e', st'⟩ := getF X hx hZ hown (host := "") (Or.inl (hw _ (rFld_mem r1))) Via.refl rfl F (g := fr (adr k sa n0) m pc ls (.ref a :: r)) rfl rfl hd
        exact Beh.stay X' (by rw [e']; exact S) N st'
      · cases hs
    · cases hs
  · cases hs
theorem hPut_sound (hw : ∀ d ∈ ws, d.before a0 Z = true) (X : Stand p l e R s m args below meth c T locs cells slots) (hx : p.tables.exec = Jvm.exec) (hZ : Z.Warmed39 s.vm) (hown : s.vm.findClass y.cls = some m.cls) (hnm : meth.name = y.name)
    {i : Nat} (hd : decode c.code pc = .ok (.putfield i, 3)) {q : Nat × List Value × AHeap} (hs : hPut ws k y.cls y.name i pc H st = some q) (S : Sim Z ws k sa n0 H T.heap) (N : Fr n0 locs) :
    Beh p l e R s m args below meth c T Z ws k sa n0 cells slots H (fr (adr k sa n0) m pc ls st) q.1 ls q.2.1 q.2.2 := by
  unfold hPut at hs
  split at hs
  · rename_i v a r
    split at hs
    · rename_i C j ty C' vs q1 q2
      split at hs
      · rename_i hC; obtain ⟨rfl, hk, hj⟩ := hC
        obtain ⟨v', hv, rfl⟩ := Option.map_eq_some_iff.mp hs
        obtain ⟨n, t, r1, r2, r3, r4, ⟨ki, r5⟩, r6⟩ := pfR_some q1
        have SO := S.2.2.2.2 a _ q2
        obtain ⟨w, hw', F⟩ := SO.2 n t j r2
        obtain ⟨g1, g2⟩ := putv_ok (adr k sa n0) hv
        obtain ⟨T', h', X', e', W, st'⟩ := putFN X hx hZ hown (hw _ (rFld_mem r1)) Via.refl rfl F SO.1 (r4.imp (fun q => hw _ q) fun q => ⟨hw _ q.1, q.2.1, hnm.trans q.2.2⟩) (hw _ r5) r3 g1 g2 (g := fr (adr k sa n0) m pc ls (v :: .ref a :: r)) rfl rfl hd
        have LL : ∀ {n' t' : String}, (n', t') ∈ olay ws C → Laid Z a0 C C n' t' := fun q => (lay_mem q).1.imp (fun q => hw _ q) (fun q => hw _ q)
        have O' : SimO Z ws (adr k sa n0) h' (adr k sa n0 a) (.object C, vs.set j v') := by
          refine ⟨SO.1.wr W, fun n' t' j' q' => ?_⟩
          obtain ⟨u, hu, F'⟩ := SO.2 n' t' j' q'
          by_cases ej : j = j'
          · subst ej
            obtain ⟨rfl, rfl⟩ := fidx_inj r2 q'
            exact ⟨v', by rw [List.getElem?_set_self hj], F.same W⟩
          · refine ⟨u, by rw [List.getElem?_set_ne ej]; exact hu, F'.other W (Or.inr ?_)⟩
            obtain ⟨-, ty', p'⟩ := lay_mem (fidx_mem q')
            refine slot_ne (LL (fidx_mem q')) (LL (fidx_mem r2)) (fun en => ?_) p' r3
            rcases r6 n' t' (fidx_mem q') with g | g
            · exact g en
            · subst en g; rw [r2] at q'; exact ej (Option.some.inj q')
        refine ⟨T', _, ?_, by rw [e']; exact Wr.upd S W O', Fr.snoc X' N (adr_ge hk), st'⟩
        show Stand p l e R s m args below meth c T' _ (cells + ((H.set a (.object C, vs.set j v')).length - H.length)) (slots + (tot ws (H.set a (.object C, vs.set j v')) - tot ws H))
        rw [List.length_set, tot_set (o := (.object C, vs)) (o' := (.object C, vs.set j v')) q2 rfl, Nat.sub_self, Nat.sub_self]
        exact X'
      · cases hs
    · cases hs
  · cases hs
theorem hNew_sound (hw : ∀ d ∈ ws, d.before a0 Z = true) (X : Stand p l e R s m args below meth c T locs cells slots) (hx : p.tables.exec = Jvm.exec) (hZ : Z.Warmed39 s.vm) (hown : s.vm.findClass y.cls = some m.cls)
    {i : Nat} (hd : decode c.code pc = .ok (.new i, 3)) {q : Nat × List Value × AHeap} (hs : hNew ws y.cls i pc H st = some q) (S : Sim Z ws k sa n0 H T.heap) (N : Fr n0 locs)
    (hc : cells + (q.2.2.length - H.length) ≤ R.cells) (hl : slots + (tot ws q.2.2 - tot ws H) ≤ R.slots) (hz0 : T.heap.size = s.heap.size + cells) :
    Beh p l e R s m args below meth c T Z ws k sa n0 cells slots H (fr (adr k sa n0) m pc ls st) q.1 ls q.2.1 q.2.2 := by
  unfold hNew at hs
  split at hs
  · rename_i C q1
    split at hs
    · rename_i g; cases hs
      obtain ⟨ki, hki⟩ := Option.isSome_iff_exists.mp g.1
      have ec : (H ++ [(FieldType.object C, (olay ws C).map dflt)]).length - H.length = 1 := by simp
      have es : tot ws (H ++ [(FieldType.object C, (olay ws C).map dflt)]) - tot ws H = ki := by
        rw [tot_app]; simp [cost, hki]
      dsimp only at hc hl ⊢
      rw [ec] at hc; rw [es] at hl
      have hz := S.next
      obtain ⟨T', h', X', e', E, A, D, -, st'⟩ := newO X hx hZ hown (hw _ (rCls_mem q1)) (hw _ (rInst_mem hki)) (hw _ (hasInit_mem g.2)) rfl (g := fr (adr k sa n0) m pc ls st) rfl hd hc hl
      have hz' : h'.size = T.heap.size + 1 := by
        have u1 := X'.heapSize
        have a1 : (T.heap.size : Nat) < h'.size := A.lt
        rw [e'] at u1
        omega
      refine ⟨T', locs, by rw [ec, es]; exact X', ?_, N, ?_⟩
      · rw [e']
        refine S.push E hz' ⟨A, fun n t j q => ?_⟩
        have hm := fidx_mem q
        obtain ⟨q2, ty, q3⟩ := lay_mem hm
        refine ⟨dflt (n, t), by rw [List.getElem?_map, idx_get q]; rfl, ?_⟩
        have F := D (O := C) (nm := n) (d := t) (q2.imp (fun q => hw _ q) (fun q => hw _ q)) q3
        have e3 : ren (adr k sa n0) (dflt (n, t)) = defaultValue ty := by simp only [dflt, q3, ren_dflt]
        rw [e3]; exact F
      · intro target ht
        rw [hz] at st'
        exact st' target ht
    · cases hs
  · cases hs
theorem hNewA_sound (hw : ∀ d ∈ ws, d.before a0 Z = true) (X : Stand p l e R s m args below meth c T locs cells slots) (hx : p.tables.exec = Jvm.exec) (hZ : Z.Warmed39 s.vm)
    {aty : ArrayType} (hd : decode c.code pc = .ok (.newarray aty, 2)) {q : Nat × List Value × AHeap} (hs : hNewA ws aty pc H st = some q) (S : Sim Z ws k sa n0 H T.heap) (N : Fr n0 locs)
    (hc : cells + (q.2.2.length - H.length) ≤ R.cells) (hl : slots + (tot ws q.2.2 - tot ws H) ≤ R.slots) (hz0 : T.heap.size = s.heap.size + cells) :
    Beh p l e R s m args below meth c T Z ws k sa n0 cells slots H (fr (adr k sa n0) m pc ls st) q.1 ls q.2.1 q.2.2 := by
  unfold hNewA at hs
  split at hs
  · rename_i n r
    split at hs
    · rename_i g; cases hs
      obtain ⟨g1, g2, g3⟩ := g
      have ec : (H ++ [(FieldType.array (newarray.typeOf aty), List.replicate n.toNatClampNeg (defaultValue (newarray.typeOf aty)))]).length - H.length = 1 := by simp
      have es : tot ws (H ++ [(FieldType.array (newarray.typeOf aty), List.replicate n.toNatClampNeg (defaultValue (newarray.typeOf aty)))]) - tot ws H = n.toNatClampNeg := by
        rw [tot_app]; simp [cost]
      dsimp only at hc hl ⊢
      rw [ec] at hc; rw [es] at hl
      have hz := S.next
      obtain ⟨T', h', cA, X', e', E, A, st'⟩ := newP X hx hZ (hw _ (hasArr_mem g1)) rfl (g := fr (adr k sa n0) m pc ls (.int n :: r)) rfl hd rfl g2 (cap := n.toNatClampNeg) (Nat.le_refl _) g3 hc hl
      have hz' : h'.size = T.heap.size + 1 := by
        have u1 := X'.heapSize
        have a1 : (T.heap.size : Nat) < h'.size := A.lt
        rw [e'] at u1
        omega
      refine ⟨T', locs, by rw [ec, es]; exact X', ?_, N, ?_⟩
      · rw [e']
        refine S.push E hz' ⟨_, A, ?_⟩
        simp [newA, ren_dflt]
      · intro target ht
        rw [hz] at st'
        exact st' target ht
    · cases hs
  · cases hs
theorem hLd_some {ok : FieldType → Bool} {q : Nat × List Value × AHeap} (hs : hLd ok pc H st = some q) : ∃ j a r ty vs v, st = .int j :: .ref a :: r ∧ H[a]? = some (.array ty, vs) ∧ ok ty = true ∧ ¬ j < 0 ∧ vs[j.toNatClampNeg]? = some v ∧ q = (pc + 1, v :: r, H) := by
  unfold hLd at hs
  split at hs
  · split at hs
    · split at hs
      · rename_i g
        obtain ⟨v, h1, h2⟩ := Option.map_eq_some_iff.mp hs
        exact ⟨_, _, _, _, _, v, rfl, by assumption, g.1, g.2, h1, h2.symm⟩
      · cases hs
    · cases hs
  · cases hs
theorem hSt_some {ok : FieldType → Bool} {q : Nat × List Value × AHeap} (hs : hSt ok k pc H st = some q) : ∃ v j a r ty vs v', st = v :: .int j :: .ref a :: r ∧ H[a]? = some (.array ty, vs) ∧ ok ty = true ∧ k ≤ a ∧ ¬ j < 0 ∧ j.toNatClampNeg < vs.length ∧ putv ty v = some v' ∧ q = (pc + 1, r, H.set a (.array ty, vs.set j.toNatClampNeg v')) := by
  unfold hSt at hs
  split at hs
  · split at hs
    · split at hs
      · rename_i g
        obtain ⟨v, h1, h2⟩ := Option.map_eq_some_iff.mp hs
        exact ⟨_, _, _, _, _, _, v, rfl, by assumption, g.1, g.2.1, g.2.2.1, g.2.2.2, h1, h2.symm⟩
      · cases hs
    · cases hs
  · cases hs
theorem hLen_some {q : Nat × List Value × AHeap} (hs : hLen pc H st = some q) : ∃ a r ty vs, st = .ref a :: r ∧ H[a]? = some (.array ty, vs) ∧ q = (pc + 1, .int vs.length.toInt32 :: r, H) := by
  unfold hLen at hs
  split at hs
  · split at hs
    · cases hs; exact ⟨_, _, _, _, rfl, by assumption, rfl⟩
    · cases hs
  · cases hs
/-- behind a store into an array -/
theorem st_beh {T' : State} {h' : Heap} {a j : Nat} {ty : FieldType} {vs : List Value} {v' : Value} {r : List Value} {g : JFrame} (X' : Stand p l e R s m args below meth c T' (locs ++ [⟨adr k sa n0 a, j⟩]) cells slots) (e' : T'.heap = h') (W : Wr T.heap h' (adr k sa n0 a) j (ren (adr k sa n0) v'))
    (S : Sim Z ws k sa n0 H T.heap) (N : Fr n0 locs) (q2 : H[a]? = some (.array ty, vs)) (hk : k ≤ a)
    (st' : ∀ target, Steps p.tables e below (T'.setTop (fr (adr k sa n0) m (pc + 1) ls r)) target → Steps p.tables e below (T.setTop g) target) :
    Beh p l e R s m args below meth c T Z ws k sa n0 cells slots H g (pc + 1) ls r (H.set a (.array ty, vs.set j v')) := by
  obtain ⟨cl, A, es⟩ := S.2.2.2.2 a _ q2
  refine ⟨T', _, ?_, by rw [e']; exact Wr.upd S W ⟨_, A.same W, size_set cl j _ _ es rfl⟩, Fr.snoc X' N (adr_ge hk), st'⟩
  rw [List.length_set, tot_set (o := (.array ty, vs)) (o' := (.array ty, vs.set j v')) q2 (by simp [cost]), Nat.sub_self, Nat.sub_self]
  exact X'
set_option maxHeartbeats 1000000 in
theorem hstep_sound (hw : ∀ d ∈ ws, d.before a0 Z = true) (X : Stand p l e R s m args below meth c T locs cells slots) (hx : p.tables.exec = Jvm.exec) (hZ : Z.Warmed39 s.vm) (hown : s.vm.findClass y.cls = some m.cls) (hnm : meth.name = y.name)
    {ins : Instr} {len : Nat} (hd : decode c.code pc = .ok (ins, len)) {q : Nat × List Value × AHeap} (hs : hstep ws k y ins len pc st H = some q) (S : Sim Z ws k sa n0 H T.heap) (N : Fr n0 locs)
    (hc : cells + (q.2.2.length - H.length) ≤ R.cells) (hl : slots + (tot ws q.2.2 - tot ws H) ≤ R.slots) (hz0 : T.heap.size = s.heap.size + cells) :
    Beh p l e R s m args below meth c T Z ws k sa n0 cells slots H (fr (adr k sa n0) m pc ls st) q.1 ls q.2.1 q.2.2 := by
  unfold hstep at hs
  split at hs
  · obtain ⟨rfl, hs⟩ := chk_some hs
    exact hGet_sound hw X hx hZ hown hd hs S N
  · obtain ⟨rfl, hs⟩ := chk_some hs
    exact hPut_sound hw X hx hZ hown hnm hd hs S N
  · obtain ⟨rfl, hs⟩ := chk_some hs
    exact hNew_sound hw X hx hZ hown hd hs S N hc hl hz0
  · obtain ⟨rfl, hs⟩ := chk_some hs
    exact hNewA_sound hw X hx hZ hd hs S N hc hl hz0
  · obtain ⟨rfl, hs⟩ := chk_some hs
    obtain ⟨j, a, r, ty, vs, v, rfl, q2, ho, hj, hv, rfl⟩ := hLd_some hs
    obtain rfl : ty = _ := of_decide_eq_true ho
    obtain ⟨cl, A, es⟩ := S.2.2.2.2 a _ q2
    have hlt := (List.getElem?_eq_some_iff.mp hv).1
    exact Beh.stay X S N fun target ht => X.iaload hx (j := j) (v := ren (adr k sa n0) v) A.1 (State.isArrayOf_alike hZ.alike A.2.1) A.2.2 (fun g => g.elim hj fun g => by rw [es] at g; simp at g; omega) (by rw [es, List.getElem?_toArray, List.getElem?_map, hv]; rfl) (g := fr (adr k sa n0) m pc ls (.int j :: .ref a :: r)) rfl rfl hd target ht
  · obtain ⟨rfl, hs⟩ := chk_some hs
    obtain ⟨j, a, r, ty, vs, v, rfl, q2, ho, hj, hv, rfl⟩ := hLd_some hs
    obtain rfl : ty = _ := of_decide_eq_true ho
    obtain ⟨cl, A, es⟩ := S.2.2.2.2 a _ q2
    have hlt := (List.getElem?_eq_some_iff.mp hv).1
    exact Beh.stay X S N fun target ht => X.caload hx (j := j) (v := ren (adr k sa n0) v) A.1 (State.isArrayOf_alike hZ.alike A.2.1) A.2.2 (fun g => g.elim hj fun g => by rw [es] at g; simp at g; omega) (by rw [es, List.getElem?_toArray, List.getElem?_map, hv]; rfl) (g := fr (adr k sa n0) m pc ls (.int j :: .ref a :: r)) rfl rfl hd target ht
  · obtain ⟨rfl, hs⟩ := chk_some hs
    obtain ⟨j, a, r, ty, vs, v, rfl, q2, ho, hj, hv, rfl⟩ := hLd_some hs
    obtain rfl : ty = _ := of_decide_eq_true ho
    obtain ⟨cl, A, es⟩ := S.2.2.2.2 a _ q2
    have hlt := (List.getElem?_eq_some_iff.mp hv).1
    exact Beh.stay X S N fun target ht => X.laload hx (j := j) (v := ren (adr k sa n0) v) A.1 (State.isArrayOf_alike hZ.alike A.2.1) A.2.2 (fun g => g.elim hj fun g => by rw [es] at g; simp at g; omega) (by rw [es, List.getElem?_toArray, List.getElem?_map, hv]; rfl) (g := fr (adr k sa n0) m pc ls (.int j :: .ref a :: r)) rfl rfl hd target ht
  · obtain ⟨rfl, hs⟩ := chk_some hs
    obtain ⟨j, a, r, ty, vs, v, rfl, q2, ho, hj, hv, rfl⟩ := hLd_some hs
    obtain ⟨cl, A, es⟩ := S.2.2.2.2 a _ q2
    have hlt := (List.getElem?_eq_some_iff.mp hv).1
    simp only [okB, Bool.or_eq_true, decide_eq_true_eq] at ho
    rcases ho with rfl | rfl
    · exact Beh.stay X S N fun target ht => X.baloadBytes hx (j := j) (v := ren (adr k sa n0) v) A.1 (State.isArrayOf_alike hZ.alike A.2.1) A.2.2 (fun g => g.elim hj fun g => by rw [es] at g; simp at g; omega) (by rw [es, List.getElem?_toArray, List.getElem?_map, hv]; rfl) (g := fr (adr k sa n0) m pc ls (.int j :: .ref a :: r)) rfl rfl hd target ht
    · exact Beh.stay X S N fun target ht => X.baloadBooleans hx (j := j) (v := ren (adr k sa n0) v) A.1 (State.isArrayOf_alike hZ.alike A.2.1) A.2.2 (fun g => g.elim hj fun g => by rw [es] at g; simp at g; omega) (by rw [es, List.getElem?_toArray, List.getElem?_map, hv]; rfl) (g := fr (adr k sa n0) m pc ls (.int j :: .ref a :: r)) rfl rfl hd target ht
  · obtain ⟨rfl, hs⟩ := chk_some hs
    obtain ⟨v, j, a, r, ty, vs, v', rfl, q2, ho, hk, hj, hlt, hv, rfl⟩ := hSt_some hs
    obtain rfl : ty = _ := of_decide_eq_true ho
    obtain ⟨cl, A, es⟩ := S.2.2.2.2 a _ q2
    cases v <;> simp only [putv, Option.some.injEq, reduceCtorEq] at hv
    subst hv
    obtain ⟨T', h', X', e', W, st'⟩ := stI X hx hZ rfl A (j := j) (fun g => g.elim hj fun g => by rw [es] at g; simp at g; omega) (g := fr (adr k sa n0) m pc ls (.int _ :: .int j :: .ref a :: r)) rfl rfl hd
    exact st_beh X' e' W S N q2 hk st'
  · obtain ⟨rfl, hs⟩ := chk_some hs
    obtain ⟨v, j, a, r, ty, vs, v', rfl, q2, ho, hk, hj, hlt, hv, rfl⟩ := hSt_some hs
    obtain rfl : ty = _ := of_decide_eq_true ho
    obtain ⟨cl, A, es⟩ := S.2.2.2.2 a _ q2
    cases v <;> simp only [putv, Option.some.injEq, reduceCtorEq] at hv
    subst hv
    obtain ⟨T', h', X', e', W, st'⟩ := stC X hx hZ rfl A (j := j) (fun g => g.elim hj fun g => by rw [es] at g; simp at g; omega) (g := fr (adr k sa n0) m pc ls (.int _ :: .int j :: .ref a :: r)) rfl rfl hd
    exact st_beh X' e' W S N q2 hk st'
  · obtain ⟨rfl, hs⟩ := chk_some hs
    obtain ⟨v, j, a, r, ty, vs, v', rfl, q2, ho, hk, hj, hlt, hv, rfl⟩ := hSt_some hs
    obtain rfl : ty = _ := of_decide_eq_true ho
    obtain ⟨cl, A, es⟩ := S.2.2.2.2 a _ q2
    cases v <;> simp only [putv, Option.some.injEq, reduceCtorEq] at hv
    subst hv
    obtain ⟨T', h', X', e', W, st'⟩ := stJ X hx hZ rfl A (j := j) (fun g => g.elim hj fun g => by rw [es] at g; simp at g; omega) (g := fr (adr k sa n0) m pc ls (.long _ :: .int j :: .ref a :: r)) rfl rfl hd
    exact st_beh X' e' W S N q2 hk st'
  · obtain ⟨rfl, hs⟩ := chk_some hs
    obtain ⟨v, j, a, r, ty, vs, v', rfl, q2, ho, hk, hj, hlt, hv, rfl⟩ := hSt_some hs
    obtain ⟨cl, A, es⟩ := S.2.2.2.2 a _ q2
    simp only [okB, Bool.or_eq_true, decide_eq_true_eq] at ho
    rcases ho with rfl | rfl
    · cases v <;> simp only [putv, Option.some.injEq, reduceCtorEq] at hv
      subst hv
      obtain ⟨T', h', X', e', W, st'⟩ := stB X hx hZ rfl A (j := j) (fun g => g.elim hj fun g => by rw [es] at g; simp at g; omega) (g := fr (adr k sa n0) m pc ls (.int _ :: .int j :: .ref a :: r)) rfl rfl hd
      exact st_beh X' e' W S N q2 hk st'
    · cases v <;> simp only [putv, Option.some.injEq, reduceCtorEq] at hv
      subst hv
      obtain ⟨T', h', X', e', W, st'⟩ := stZ X hx hZ rfl A (j := j) (fun g => g.elim hj fun g => by rw [es] at g; simp at g; omega) (g := fr (adr k sa n0) m pc ls (.int _ :: .int j :: .ref a :: r)) rfl rfl hd
      exact st_beh X' e' W S N q2 hk st'
  · obtain ⟨rfl, hs⟩ := chk_some hs
    obtain ⟨a, r, ty, vs, rfl, q2, rfl⟩ := hLen_some hs
    obtain ⟨cl, A, es⟩ := S.2.2.2.2 a _ q2
    have ez : cl.slots.size = vs.length := by rw [es]; simp
    refine Beh.stay X S N fun target ht => X.arraylength hx (cell := cl) A.1 (State.isArrayOf_alike hZ.alike A.2.1) (g := fr (adr k sa n0) m pc ls (.ref a :: r)) rfl rfl hd target ?_
    rw [ez]; exact ht
  · obtain ⟨rfl, hs⟩ := chk_some hs
    obtain ⟨v, hv, rfl⟩ := Option.map_eq_some_iff.mp hs
    exact Beh.stay X S N (X.ldcInt hx hown (mvT hZ (hw _ (rCon_mem hv))) (g := fr (adr k sa n0) m pc ls st) rfl hd)
  · obtain ⟨rfl, hs⟩ := chk_some hs
    obtain ⟨v, hv, rfl⟩ := Option.map_eq_some_iff.mp hs
    exact Beh.stay X S N (X.ldcwInt hx hown (mvT hZ (hw _ (rCon_mem hv))) (g := fr (adr k sa n0) m pc ls st) rfl hd)
  · obtain ⟨rfl, hs⟩ := chk_some hs
    obtain ⟨v, hv, rfl⟩ := Option.map_eq_some_iff.mp hs
    exact Beh.stay X S N (X.ldc2Long hx hown (mvT hZ (hw _ (rConL_mem hv))) (g := fr (adr k sa n0) m pc ls st) rfl hd)
  · cases hs
end H
theorem hstep_size {ws : Ws} {k : Nat} {y : MethodName} {ins : Instr} {len pc : Nat} {st : List Value} {H : AHeap} {q : Nat × List Value × AHeap} (hs : hstep ws k y ins len pc st H = some q) : H.length ≤ q.2.2.length ∧ tot ws H ≤ tot ws q.2.2 := by
  unfold hstep at hs
  split at hs
  · obtain ⟨rfl, hs⟩ := chk_some hs
    unfold hGet at hs
    split at hs
    · split at hs
      · split at hs
        · obtain ⟨v, -, rfl⟩ := Option.map_eq_some_iff.mp hs; exact ⟨Nat.le_refl _, Nat.le_refl _⟩
        · cases hs
      · cases hs
    · cases hs
  · obtain ⟨rfl, hs⟩ := chk_some hs
    unfold hPut at hs
    split at hs
    · split at hs
      · rename_i C j ty C' vs q1 q2
        split at hs
        · obtain ⟨v, -, rfl⟩ := Option.map_eq_some_iff.mp hs
          exact ⟨Nat.le_of_eq (by rw [List.length_set]), Nat.le_of_eq (tot_set (o := (.object C', vs)) (o' := (.object C', vs.set j v)) q2 rfl).symm⟩
        · cases hs
      · cases hs
    · cases hs
  · obtain ⟨rfl, hs⟩ := chk_some hs
    unfold hNew at hs
    split at hs
    · split at hs
      · cases hs; exact ⟨by simp, by rw [tot_app]; omega⟩
      · cases hs
    · cases hs
  · obtain ⟨rfl, hs⟩ := chk_some hs
    unfold hNewA at hs
    split at hs
    · split at hs
      · cases hs; exact ⟨by simp, by rw [tot_app]; omega⟩
      · cases hs
    · cases hs
  all_goals first
    | (obtain ⟨rfl, hs⟩ := chk_some hs; obtain ⟨j, a, r, ty, vs, v, rfl, q2, ho, hj, hv, rfl⟩ := hLd_some hs; exact ⟨Nat.le_refl _, Nat.le_refl _⟩)
    | (obtain ⟨rfl, hs⟩ := chk_some hs; obtain ⟨v, j, a, r, ty, vs, v', rfl, q2, ho, hk, hj, hlt, hv, rfl⟩ := hSt_some hs; exact ⟨Nat.le_of_eq (by rw [List.length_set]), Nat.le_of_eq (tot_set (o := (.array ty, vs)) (o' := (.array ty, vs.set _ v')) q2 (by simp [cost])).symm⟩)
    | (obtain ⟨rfl, hs⟩ := chk_some hs; obtain ⟨a, r, ty, vs, rfl, q2, rfl⟩ := hLen_some hs; exact ⟨Nat.le_refl _, Nat.le_refl _⟩)
    | (obtain ⟨rfl, hs⟩ := chk_some hs; obtain ⟨v, hv, rfl⟩ := Option.map_eq_some_iff.mp hs; exact ⟨Nat.le_refl _, Nat.le_refl _⟩)
    | (cases hs; done)
end Jvm.Own
namespace Jvm.Own
open Sem ClassFile Op Lib Jvm.Stand Jvm.Free Jvm.LawKit Jvm.RoadKit
/-! OWN 5: the run is the machine's -/
theorem ent_ren (f : Nat → Nat) : ∀ as : List Value, ent (as.map (ren f)) = (ent as).map (renS f)
  | [] => rfl
  | v :: r => by
    simp only [List.map_cons, ent, ren_cat, ent_ren f r]
    split <;> rfl
theorem fill_eq : ∀ (as : List Value) (acc : Array Slot), as.foldl (fun acc v => if v.category = 2 then (acc.push (.val v)).push .second else acc.push (.val v)) acc = acc ++ (ent as).toArray
  | [], acc => by simp [ent]
  | v :: r, acc => by
    simp only [List.foldl_cons, ent]
    split
    · rw [fill_eq r]; simp [← Array.toList_inj]
    · rw [fill_eq r]; simp [← Array.toList_inj]
theorem entry_eq (f : Nat → Nat) (m : MethodId) (as : List Value) (mx : Nat) : entryFrame m (as.map (ren f)).toArray mx = fr f m 0 (entry as mx) [] := by
  have h : argsToLocals (as.map (ren f)).toArray mx = ((entry as mx).map (renS f)).toArray := by
    unfold argsToLocals entry
    simp only [List.foldl_toArray']
    rw [fill_eq, ent_ren]
    simp [← Array.toList_inj, renS]
  unfold entryFrame
  rw [h]; rfl
theorem entry_len {as : List Value} {mx : Nat} (h : (ent as).length ≤ mx) : (entry as mx).length = mx := by simp [entry]; omega
theorem wsum_ren (f : Nat → Nat) (st : List Value) : ((st.map (ren f)).map fun v => v.category).sum = wsum st := by
  unfold wsum
  rw [List.map_map]
  congr 1
  apply List.map_congr_left
  intro v _
  exact ren_cat f v
section Inv
variable {ws : Ws} {dn : Dn} {k : Nat} {y : MethodName} {bytes : ByteArray} {ret : Option FieldType} {pc : Nat} {ls : List Slot} {st : List Value} {H : AHeap}
theorem cR_some {i : Nat} {y' : MethodName} {b : ByteArray} {mx na sl : Nat} {r : Option FieldType} (h : cR ws dn y i = some (y', b, mx, r, na, sl)) :
    Jvm.Cond.methodLink y.cls i y' ∈ ws ∧ Jvm.Cond.code y' b mx r ∈ ws ∧ Jvm.Cond.initialized y'.cls ∈ ws ∧ Jvm.plainName y'.cls = true ∧ (y'.cls ≠ "java/lang/invoke/MethodHandle" ∧ y'.cls ≠ "java/lang/invoke/VarHandle") ∧ rCode ws y' = some (b, mx, r) ∧
    ∃ f' l' f l sig, dnOf dn y' = some (f', l') ∧ dnOf dn y = some (f, l) ∧ parseMethodDescriptor y'.desc = some sig ∧ na = sig.parameters.length ∧ f' + 1 ≤ f ∧ sl + (mx + 11) + l' ≤ l := by
  unfold cR at h
  split at h
  · cases h
  · rename_i z q1
    split at h
    · rename_i b' mx' r' f' l' f l sig q2 q3 q4 q5
      split at h
      · rename_i g
        cases h
        obtain ⟨g1, g2, g3, g4, g5, g6⟩ := g
        exact ⟨rMth_mem q1, rCode_mem q2, hasInit_mem g1, g2, ⟨g3, g4⟩, q2, f', l', f, l, sig, q3, q4, q5, rfl, g5, by omega⟩
      · cases h
    · cases h
theorem act_ret {v : Option Value} (h : act ws dn k y bytes ret pc ls st H = some (.inl v)) : (∃ z r t, decode bytes pc = .ok (.ireturn, 1) ∧ st = .int z :: r ∧ ret = some t ∧ (t = .int ∨ t = .boolean ∨ t = .byte ∨ t = .char ∨ t = .short) ∧ v = some (.int (nar t z))) ∨
    (∃ z, decode bytes pc = .ok (.lreturn, 1) ∧ st = [.long z] ∧ ret = some .long ∧ v = some (.long z)) ∨ (decode bytes pc = .ok (.return_, 1) ∧ st = [] ∧ ret = none ∧ v = none) := by
  unfold act at h
  split at h
  · cases h
  rename_i ins len hd
  split at h
  · cases h
  split at h
  · cases h
  unfold cstep at h
  split at h
  · obtain ⟨rfl, h⟩ := chk_some h
    split at h
    · split at h
      · rename_i g; cases h; exact Or.inl ⟨_, _, _, hd, rfl, rfl, g, rfl⟩
      · cases h
    · cases h
  · obtain ⟨rfl, h⟩ := chk_some h
    split at h
    · cases h; exact Or.inr (Or.inl ⟨_, hd, rfl, rfl, rfl⟩)
    · cases h
  · obtain ⟨rfl, h⟩ := chk_some h
    split at h
    · cases h; exact Or.inr (Or.inr ⟨hd, rfl, rfl, rfl⟩)
    · cases h
  · obtain ⟨rfl, h⟩ := chk_some h
    split at h
    · split at h <;> cases h
    · cases h
  · obtain ⟨rfl, h⟩ := chk_some h
    split at h
    · split at h
      · split at h <;> cases h
      · cases h
    · split at h
      · split at h
        · split at h <;> cases h
        · cases h
      · cases h
  · obtain ⟨rfl, h⟩ := chk_some h
    split at h
    · split at h
      · split at h
        · split at h <;> cases h
        · cases h
      · cases h
    · cases h
  · cases h
theorem act_step {pc' : Nat} {ls' : List Slot} {st' : List Value} {H' : AHeap} (h : act ws dn k y bytes ret pc ls st H = some (.inr (.inl (pc', ls', st', H')))) : ∃ ins len, decode bytes pc = .ok (ins, len) ∧
    ((xstep ins len pc ls st = some (pc', ls', st') ∧ H' = H) ∨ (ls' = ls ∧ hstep ws k y ins len pc st H = some (pc', st', H')) ∨
     (∃ i sl a r, ins = .invokespecial i ∧ len = 3 ∧ oR ws dn y i = some sl ∧ st = .ref a :: r ∧ wsum r ≤ sl ∧ pc' = pc + 3 ∧ ls' = ls ∧ st' = r ∧ H' = H)) := by
  unfold act at h
  split at h
  · cases h
  rename_i ins len hd
  refine ⟨ins, len, hd, ?_⟩
  split at h
  · rename_i g; cases h; exact Or.inl ⟨g, rfl⟩
  split at h
  · rename_i g; cases h; exact Or.inr (Or.inl ⟨rfl, g⟩)
  unfold cstep at h
  split at h
  · obtain ⟨rfl, h⟩ := chk_some h
    split at h
    · split at h <;> cases h
    · cases h
  · obtain ⟨rfl, h⟩ := chk_some h
    split at h <;> cases h
  · obtain ⟨rfl, h⟩ := chk_some h
    split at h <;> cases h
  · obtain ⟨rfl, h⟩ := chk_some h
    split at h
    · split at h <;> cases h
    · cases h
  · obtain ⟨rfl, h⟩ := chk_some h
    split at h
    · rename_i sl ho
      split at h
      · split at h
        · rename_i g; cases h; exact Or.inr (Or.inr ⟨_, sl, _, _, rfl, rfl, ho, rfl, g, rfl, rfl, rfl, rfl⟩)
        · cases h
      · cases h
    · split at h
      · split at h
        · split at h <;> cases h
        · cases h
      · cases h
  · obtain ⟨rfl, h⟩ := chk_some h
    split at h
    · split at h
      · split at h
        · split at h <;> cases h
        · cases h
      · cases h
    · cases h
  · cases h
/-- the three kinds of call -/
theorem act_call {y' : MethodName} {b : ByteArray} {r : Option FieldType} {en : List Slot} {rest : List Value} (h : act ws dn k y bytes ret pc ls st H = some (.inr (.inr (y', b, r, en, rest)))) : ∃ i mx na sl as, cR ws dn y i = some (y', b, mx, r, na, sl) ∧ en = entry as mx ∧ (ent as).length ≤ mx ∧ wsum rest ≤ sl ∧
    ((decode bytes pc = .ok (.invokestatic i, 3) ∧ Jvm.Cond.static y' ∈ ws ∧ as.length = na ∧ st = as.reverse ++ rest) ∨
     (∃ a as', as = .ref a :: as' ∧ as'.length = na ∧ st = as'.reverse ++ .ref a :: rest ∧ Jvm.Cond.instanceMethod y' ∈ ws ∧
      ((decode bytes pc = .ok (.invokespecial i, 3) ∧ y'.name = "<init>" ∧ r = none) ∨
       (decode bytes pc = .ok (.invokevirtual i, 3) ∧ ∃ C vs, H[a]? = some (.object C, vs) ∧ ((Jvm.Cond.privateMethod y' ∈ ws ∧ ∃ ki, Jvm.Cond.instantiable y'.cls ki ∈ ws) ∨ (Jvm.Cond.declares y' ∈ ws ∧ Jvm.Cond.selects y'.cls y' y' ∈ ws ∧ C = y'.cls)))))) := by
  unfold act at h
  split at h
  · cases h
  rename_i ins len hd
  split at h
  · cases h
  split at h
  · cases h
  unfold cstep at h
  split at h
  · obtain ⟨rfl, h⟩ := chk_some h
    split at h
    · split at h <;> cases h
    · cases h
  · obtain ⟨rfl, h⟩ := chk_some h
    split at h <;> cases h
  · obtain ⟨rfl, h⟩ := chk_some h
    split at h <;> cases h
  · rename_i i _ _
    obtain ⟨rfl, h⟩ := chk_some h
    split at h
    · rename_i y1 b1 mx r1 na sl hq
      split at h
      · rename_i g
        cases h
        unfold sR at hq
        split at hq
        · rename_i q hc
          split at hq
          · rename_i hs
            cases hq
            refine ⟨i, mx, na, sl, _, hc, rfl, g.2.2, g.2.1, Or.inl ⟨hd, hasStat_mem hs, by simp; omega, by simp⟩⟩
          · cases hq
        · cases hq
      · cases h
    · cases h
  · rename_i i _ _
    obtain ⟨rfl, h⟩ := chk_some h
    split at h
    · split at h
      · split at h <;> cases h
      · cases h
    · split at h
      · rename_i y1 b1 mx r1 na sl hq
        split at h
        · rename_i a rest' hdrop
          split at h
          · rename_i g
            cases h
            unfold nR at hq
            split at hq
            · rename_i q hc
              split at hq
              · rename_i hs
                cases hq
                refine ⟨i, mx, na, sl, _, hc, rfl, g.2.1, g.1, Or.inr ⟨a, _, rfl, by simp; omega, ?_, hasIM_mem hs.2.1, Or.inl ⟨hd, hs.1, hs.2.2⟩⟩⟩
                rw [List.reverse_reverse, ← hdrop, List.take_append_drop]
              · cases hq
            · cases hq
          · cases h
        · cases h
      · cases h
  · rename_i i _ _
    obtain ⟨rfl, h⟩ := chk_some h
    split at h
    · rename_i pv y1 b1 mx r1 na sl hq
      split at h
      · rename_i a rest' hdrop
        split at h
        · rename_i C vs hH
          split at h
          · rename_i g
            cases h
            unfold vR at hq
            split at hq
            · rename_i q hc
              split at hq
              · rename_i hs
                split at hq
                · rename_i hp; cases hq
                  obtain ⟨ki, hki⟩ := Option.isSome_iff_exists.mp hp.2
                  exact ⟨i, mx, na, sl, _, hc, rfl, g.2.2.1, g.2.1, Or.inr ⟨a, _, rfl, by simp; omega, by rw [List.reverse_reverse, ← hdrop, List.take_append_drop], hasIM_mem hs, Or.inr ⟨hd, C, vs, hH, Or.inl ⟨hasPriv_mem hp.1, ki, rInst_mem hki⟩⟩⟩⟩
                · split at hq
                  · rename_i hp; cases hq
                    exact ⟨i, mx, na, sl, _, hc, rfl, g.2.2.1, g.2.1, Or.inr ⟨a, _, rfl, by simp; omega, by rw [List.reverse_reverse, ← hdrop, List.take_append_drop], hasIM_mem hs, Or.inr ⟨hd, C, vs, hH, Or.inr ⟨hasDecl_mem hp.1, hasSel_mem hp.2, g.1.resolve_left (by simp)⟩⟩⟩⟩
                  · cases hq
              · cases hq
            · cases hq
          · cases h
        · cases h
      · cases h
    · cases h
  · cases h
theorem act_size {pc' : Nat} {ls' : List Slot} {st' : List Value} {H' : AHeap} (h : act ws dn k y bytes ret pc ls st H = some (.inr (.inl (pc', ls', st', H')))) : H.length ≤ H'.length ∧ tot ws H ≤ tot ws H' ∧ ls'.length = ls.length := by
  obtain ⟨ins, len, hd, ⟨g, rfl⟩ | ⟨rfl, g⟩ | ⟨i, sl, a, r, -, -, -, -, -, -, rfl, -, rfl⟩⟩ := act_step h
  · exact ⟨Nat.le_refl _, Nat.le_refl _, xstep_size g⟩
  · have := hstep_size g; exact ⟨this.1, this.2, rfl⟩
  · exact ⟨Nat.le_refl _, Nat.le_refl _, rfl⟩
end Inv
theorem run_size {ws : Ws} {dn : Dn} {k : Nat} : ∀ {n : Nat} {y : MethodName} {bytes : ByteArray} {ret : Option FieldType} {pc : Nat} {ls : List Slot} {st : List Value} {H : AHeap} {v : Option Value} {H' : AHeap}, run ws dn k n y bytes ret pc ls st H = some (v, H') → H.length ≤ H'.length ∧ tot ws H ≤ tot ws H'
  | 0, _, _, _, _, _, _, _, _, _, h => by cases h
  | n + 1, y, bytes, ret, pc, ls, st, H, v, H', h => by
    rw [run] at h
    split at h
    · cases h
    · cases h; exact ⟨Nat.le_refl _, Nat.le_refl _⟩
    · rename_i g
      have h1 := run_size h
      have h2 := act_size g
      exact ⟨Nat.le_trans h2.1 h1.1, Nat.le_trans h2.2.1 h1.2⟩
    · split at h
      · rename_i g
        have h1 := run_size h
        have h2 := run_size g
        exact ⟨Nat.le_trans h2.1 h1.1, Nat.le_trans h2.2 h1.2⟩
      · cases h
section Snd
/-- from here on the machine comes to a return of v with the heap H' -/
def Goes (p : Program) (l : Launch) (e : Env) (R : Room) (s : State) (m : MethodId) (args : Array Value) (below : List Frame) (meth : Method) (c : Code) (T : State) (Z : State) (ws : Ws) (k sa n0 cells slots : Nat) (H : AHeap) (g : JFrame) (ret : Option FieldType) (v : Option Value) (H' : AHeap) : Prop :=
  ∃ T' locs', Stand p l e R s m args below meth c T' locs' (cells + (H'.length - H.length)) (slots + (tot ws H' - tot ws H)) ∧ Sim Z ws k sa n0 H' T'.heap ∧ Fr n0 locs' ∧ (ret = none → v = none) ∧
    ∀ fs, (∀ (fj : JFrame) (acts : List Action), fj.method = m → fj.locked = none → fj.entered = [] → (doReturn e (T'.setTop fj) acts (v.map (ren (adr k sa n0)))).1 = T'.setFrames fs) → Steps p.tables e below (T.setTop g) (T'.setFrames fs)
variable {p : Program} {l : Launch} {e : Env} {R : Room} {s : State} {m : MethodId} {args : Array Value} {below : List Frame} {meth : Method} {c : Code} {T : State} {locs : List Loc} {cells slots : Nat}
  {Z : State} {a0 : Array Value} {ws : Ws} {dn : Dn} {k sa n0 : Nat}
theorem Goes.of {T1 : State} {H H1 H' : AHeap} {g g1 : JFrame} {ret : Option FieldType} {v : Option Value} (hst : ∀ target, Steps p.tables e below (T1.setTop g1) target → Steps p.tables e below (T.setTop g) target)
    (G : Goes p l e R s m args below meth c T1 Z ws k sa n0 (cells + (H1.length - H.length)) (slots + (tot ws H1 - tot ws H)) H1 g1 ret v H') (m1 : H.length ≤ H1.length ∧ tot ws H ≤ tot ws H1) (m2 : H1.length ≤ H'.length ∧ tot ws H1 ≤ tot ws H') :
    Goes p l e R s m args below meth c T Z ws k sa n0 cells slots H g ret v H' := by
  obtain ⟨T', locs', X', S', N', hv, go⟩ := G
  have e1 : cells + (H1.length - H.length) + (H'.length - H1.length) = cells + (H'.length - H.length) := by omega
  have e2 : slots + (tot ws H1 - tot ws H) + (tot ws H' - tot ws H1) = slots + (tot ws H' - tot ws H) := by omega
  rw [e1, e2] at X'
  exact ⟨T', locs', X', S', N', hv, fun fs hf => hst _ (go fs hf)⟩
def Snd (Z : State) (ws : Ws) (dn : Dn) (k sa n0 n : Nat) : Prop :=
  ∀ (y : MethodName) (bytes : ByteArray) (ret : Option FieldType) (pc : Nat) (ls : List Slot) (st : List Value) (H : AHeap) (v : Option Value) (H' : AHeap), run ws dn k n y bytes ret pc ls st H = some (v, H') →
  ∀ (p : Program) (l : Launch) (e : Env) (R : Room) (s : State) (m : MethodId) (args : Array Value) (below : List Frame) (meth : Method) (c : Code) (T : State) (locs : List Loc) (cells slots : Nat),
    Stand p l e R s m args below meth c T locs cells slots → p.tables.exec = Jvm.exec → Z.Warmed39 s.vm → s.vm.findClass y.cls = some m.cls → meth.name = y.name → meth.sig.returnType = ret → c.code = bytes → ls.length = c.maxLocals →
    (∀ f lc, dnOf dn y = some (f, lc) → f ≤ R.frames ∧ lc ≤ R.locals) → Sim Z ws k sa n0 H T.heap → Fr n0 locs → cells + (H'.length - H.length) ≤ R.cells → slots + (tot ws H' - tot ws H) ≤ R.slots → T.heap.size = s.heap.size + cells →
    Goes p l e R s m args below meth c T Z ws k sa n0 cells slots H (fr (adr k sa n0) m pc ls st) ret v H'
theorem met_of {n : Nat} (ih : Snd Z ws dn k sa n0 n) (l : Launch) {y : MethodName} {b : ByteArray} {mx f lc : Nat} {r : Option FieldType} (wsx : List Jvm.Cond) (hp : Jvm.plainName y.cls = true) {as : List Value} (he : (ent as).length ≤ mx) {H H1 : AHeap} {v : Option Value}
    (hrun : run ws dn k n y b r 0 (entry as mx) [] H = some (v, H1)) (hdn : ∀ f' l', dnOf dn y = some (f', l') → f' ≤ f ∧ l' ≤ lc) {h : Heap} (S : Sim Z ws k sa n0 H h) {rc rs : Nat} (hc : H1.length - H.length ≤ rc) (hs : tot ws H1 - tot ws H ≤ rs) :
    MetFree l y (head1 (Jvm.Cond.code y b mx r :: wsx) ({ frames := f, cells := rc, slots := rs, locals := lc } : Room)) (fun a U => a = (as.map (ren (adr k sa n0))).toArray ∧ Z.Warmed39 U.vm ∧ U.heap = h) (fun _ _ _ _ _ => True)
      (fun _ U o U' => ∃ w L, o = .returned w ∧ (w = v.map (ren (adr k sa n0)) ∧ Sim Z ws k sa n0 H1 U'.heap ∧ Fr n0 L) ∧ FrameEnd U o U' L (H1.length - H.length) (tot ws H1 - tot ws H)) := by
  refine MetFree.of_bodySF (plainFor_of_name hp) hisR ?_
  intro p e s m args below meth c s₁ Bd hml0 hP hK
  obtain ⟨rfl, hZ, hh⟩ := hP
  have hown : s.vm.findClass y.cls = some m.cls := findClass_of_methodNamed Bd.named
  have hnm := (name_of_methodNamed Bd.named Bd.method).1
  have X0 : Stand p l e ({ frames := f, cells := rc, slots := rs, locals := lc } : Room) s m (as.map (ren (adr k sa n0))).toArray below meth c s₁ [] 0 0 := Stand.of_body Bd
  have e0 : s₁.heap = h := by rw [← hh, Bd.state]; rfl
  obtain ⟨T', locs', X', S', N', hv, go⟩ := ih y b r 0 (entry as mx) [] H v H1 hrun p l e _ s m _ below meth c s₁ [] 0 0 X0 Bd.exec hZ hown hnm Bd.returns Bd.bytes (by rw [entry_len he]; exact hml0.symm) hdn (by rw [e0]; exact S) (Fr.nil n0) (by rw [Nat.zero_add]; exact hc) (by rw [Nat.zero_add]; exact hs) (by rw [e0, ← hh, Nat.add_zero])
  obtain ⟨fs, hr, hrun', hended, hW, hsame⟩ := X'.leave (v := v.map (ren (adr k sa n0))) (fun hn => by rw [Bd.returns] at hn; rw [hv hn]; rfl)
  refine ⟨_, _, castTop (entry_eq _ m as mx) (go fs hr), hrun', hended, _, locs', rfl, ⟨rfl, S', N'⟩, ⟨_, rfl⟩, hW, hsame.mono (Nat.le_of_eq (Nat.zero_add _)) (Nat.le_of_eq (Nat.zero_add _))⟩
set_option maxHeartbeats 2000000 in
theorem snd (hw : ∀ d ∈ ws, d.before a0 Z = true) : ∀ n, Snd Z ws dn k sa n0 n
  | 0 => fun y bytes ret pc ls st H v H' h => by cases h
  | n + 1 => fun y bytes ret pc ls st H v H' h p l e R s m args below meth c T locs cells slots X hx hZ hown hnm hret hby hls hF S N hc hl hz0 => by
    have ih := snd hw n
    rw [run] at h
    split at h
    · cases h
    · rename_i v' ha
      cases h
      have stay : ∀ {v : Option Value}, (ret = none → v = none) → (∀ fs, (∀ (fj : JFrame) (acts : List Action), fj.method = m → fj.locked = none → fj.entered = [] → (doReturn e (T.setTop fj) acts (v.map (ren (adr k sa n0)))).1 = T.setFrames fs) → Steps p.tables e below (T.setTop (fr (adr k sa n0) m pc ls st)) (T.setFrames fs)) →
          Goes p l e R s m args below meth c T Z ws k sa n0 cells slots H (fr (adr k sa n0) m pc ls st) ret v H := fun hv hg => ⟨T, locs, by rw [Nat.sub_self, Nat.sub_self]; exact X, S, N, hv, hg⟩
      rcases act_ret ha with ⟨z, r, t, hd, rfl, rfl, ht, rfl⟩ | ⟨z, hd, rfl, rfl, rfl⟩ | ⟨hd, rfl, rfl, rfl⟩
      · refine stay (fun h => by cases h) fun fs hf => ?_
        rcases ht with rfl | ht
        · exact retOut X hx hret (w := .int z) (rest := r.map (ren (adr k sa n0))) rfl (Or.inl ⟨rfl, Or.inl rfl, z, rfl⟩) (hb hby hd) hf
        · exact retN X hx hret ht (hb hby hd) hf
      · exact stay (fun h => by cases h) fun fs hf => retOut X hx hret (w := .long z) (rest := []) rfl (Or.inr (Or.inl ⟨rfl, rfl, z, rfl⟩)) (hb hby hd) hf
      · exact stay (fun _ => rfl) fun fs hf => X.returnOut hx hret (hb hby hd) hf
    · rename_i pc' ls' st' H1 ha
      have m1 := act_size ha
      have m2 := run_size h
      obtain ⟨ins, len, hd, ⟨g, rfl⟩ | ⟨rfl, g⟩ | ⟨i, sl, a, r, rfl, rfl, ho, rfl, hW, rfl, rfl, rfl, rfl⟩⟩ := act_step ha
      · obtain ⟨T', locs', X', S', N', hv, go⟩ := ih y bytes ret pc' ls' st' H1 v H' h p l e R s m args below meth c T locs cells slots X hx hZ hown hnm hret hby (m1.2.2.trans hls) hF S N hc hl hz0
        exact ⟨T', locs', X', S', N', hv, fun fs hf => xstep_sound X.here hx (adr k sa n0) (hb hby hd) g (go fs hf)⟩
      · obtain ⟨T1, locs1, X1, S1, N1, st1⟩ := hstep_sound (ls := ls') hw X hx hZ hown hnm (hb hby hd) g S N (by dsimp only; omega) (by dsimp only; omega) hz0
        dsimp only at X1 S1 st1
        have z1 := S.1
        have z2 := S1.1
        have z3 := S.2.1
        have G := ih y bytes ret pc' ls' st' H1 v H' h p l e R s m args below meth c T1 locs1 _ _ X1 hx hZ hown hnm hret hby hls hF S1 N1 (by omega) (by omega) (by omega)
        exact Goes.of st1 G ⟨m1.1, m1.2.1⟩ m2
      · unfold oR at ho
        split at ho
        · rename_i y1 b1 mx1 r1 f1 l1 q1 q2 q3
          split at ho
          · rename_i g
            cases ho
            obtain ⟨rfl, g2, g3, rfl, rfl, g4, g5⟩ := g
            obtain ⟨u1, u2⟩ := hF _ _ q3
            have eb : b1 = ⟨#[0xb1]⟩ := by cases b1; cases g3; rfl
            subst eb
            obtain ⟨T1, X1, e1, st1⟩ := initO X hx hZ hown (hw _ (rMth_mem q1)) (hw _ (hasIM_mem g2)) (hw _ (rCode_mem q2)) rfl (g := fr (adr k sa n0) m pc ls' (.ref a :: st')) rfl (by simp [hls]) rfl (hb hby hd) (by omega) (W := l1 - 12) (by show 2 * 0 + _ ≤ _; rw [wsum_ren]; omega) (by omega)
            have G := ih y bytes ret (pc + 3) ls' st' H1 v H' h p l e R s m args below meth c T1 locs cells slots X1 hx hZ hown hnm hret hby hls hF (by rw [e1]; exact S) N hc hl (by rw [e1]; exact hz0)
            obtain ⟨T', locs', X', S', N', hv, go⟩ := G
            exact ⟨T', locs', X', S', N', hv, fun fs hf => st1 _ (go fs hf)⟩
          · cases ho
        · cases ho
    · rename_i y' b r en rest ha
      split at h
      · rename_i v1 H1 h1
        have m1 := run_size h1
        have m2 := run_size h
        obtain ⟨i, mx, na, sl, as, hq, rfl, hen, hW, hk⟩ := act_call ha
        obtain ⟨w1, w2, w3, w4, w5, -, f', l', f, lc, sig, d1, d2, d3, d4, d5, d6⟩ := cR_some hq
        obtain ⟨u1, u2⟩ := hF _ _ d2
        have hM := met_of ih l [] w4 hen h1 (f := f') (lc := l') (fun f2 l2 q => by rw [d1] at q; cases q; exact ⟨Nat.le_refl _, Nat.le_refl _⟩) S (Nat.le_refl _) (Nat.le_refl _)
        have hB := backOf (R := R) (p := p) (e := e) (below := below) (s := s) (args := args) (len := 3) (W := sl) (rm := ({ frames := f', cells := H1.length - H.length, slots := tot ws H1 - tot ws H, locals := l' } : Room)) (Q := fun w h L => w = v1.map (ren (adr k sa n0)) ∧ Sim Z ws k sa n0 H1 h ∧ Fr n0 L) hM hZ (hw _ w2) (hw _ w3) (by show f' + 1 ≤ _; omega) (by show sl + (mx + 11) + l' ≤ _; omega)
        have hsz : (fr (adr k sa n0) m pc ls st).locals.size = c.maxLocals := by simp [hls]
        have hWW : ∀ st' : List Value, wsum st' ≤ sl → 2 * (fr (adr k sa n0) m pc ls st).monitorRoom + ((st'.map (ren (adr k sa n0))).map fun v => v.category).sum ≤ sl := fun st' q => by show 2 * 0 + _ ≤ _; rw [wsum_ren]; omega
        have hback : ∀ (v' : Option Value) (vm₁ : Vm) (B : Pt), Stand p l e R s m args below meth c B.U B.locs B.cells B.slots →
            (∃ L, (v' = v1.map (ren (adr k sa n0)) ∧ Sim Z ws k sa n0 H1 B.U.heap ∧ Fr n0 L) ∧ B.locs = locs ++ L ∧ B.cells = cells + (H1.length - H.length) ∧ B.slots = slots + (tot ws H1 - tot ws H)) →
            (∀ target, Steps p.tables e below (B.U.setTop { fr (adr k sa n0) m pc ls st with pc := pc + 3, stack := v'.toList ++ rest.map (ren (adr k sa n0)) }) target → Steps p.tables e below (T.setTop (fr (adr k sa n0) m pc ls st)) target) →
            Goes p l e R s m args below meth c T Z ws k sa n0 cells slots H (fr (adr k sa n0) m pc ls st) ret v H' := by
          rintro v' vm₁ ⟨T1, L1, k1, n1⟩ X1 ⟨Lc, ⟨rfl, S1, N1⟩, l1, y1, z1⟩ st1
          dsimp only [Pt.U, Pt.locs, Pt.cells, Pt.slots] at X1 l1 y1 z1 st1 S1
          subst l1 y1 z1
          have z1 := S.1
          have z2 := S1.1
          have z3 := S.2.1
          have G := ih y bytes ret (pc + 3) ls (v1.toList ++ rest) H1 v H' h p l e R s m args below meth c T1 _ _ _ X1 hx hZ hown hnm hret hby hls hF S1 (Fr.app N N1) (by omega) (by omega) (by omega)
          refine Goes.of (fun target ht => st1 target ?_) G m1 m2
          have e1 : (v1.toList ++ rest).map (ren (adr k sa n0)) = (v1.map (ren (adr k sa n0))).toList ++ rest.map (ren (adr k sa n0)) := by cases v1 <;> simp
          rw [← e1]; exact ht
        rcases hk with ⟨hd, ws1, hna, rfl⟩ | ⟨a, as', rfl, hna, rfl, wi, ⟨hd, hn, rfl⟩ | ⟨hd, C, vs, hH, hpd⟩⟩
        · obtain ⟨v', vm₁, B, -, X1, P1, st1⟩ := Jvm.LawKit.callS X hx (y := y') hown (mvT hZ (hw _ w1)) (mvT hZ (hw _ ws1)) (mvT hZ (hw _ w3)) (mvT hZ (hw _ w2)) w5 hB (g := fr (adr k sa n0) m pc ls (as.reverse ++ rest)) rfl hsz (argsL := as.map (ren (adr k sa n0))) (rest := rest.map (ren (adr k sa n0)))
            (fun sg hsg => by rw [d3] at hsg; cases hsg; simp [hna, d4]) (by simp) (hWW rest hW) (hb hby hd) (fun _ _ => ⟨rfl, rfl, by show cells + (H1.length - H.length) ≤ _; omega, by show slots + (tot ws H1 - tot ws H) ≤ _; omega⟩)
          exact hback v' vm₁ B X1 P1 st1
        · obtain ⟨v', vm₁, B, -, X1, P1, st1⟩ := X.specialBack hx (y := y') hn hown (mvT hZ (hw _ w1)) (mvT hZ (hw _ wi)) (mvT hZ (hw _ w2)) w5 hB (g := fr (adr k sa n0) m pc ls (as'.reverse ++ .ref a :: rest)) rfl hsz (Steps.refl _) (a := adr k sa n0 a) (argsL := as'.map (ren (adr k sa n0))) (rest := rest.map (ren (adr k sa n0)))
            (fun sg hsg => by rw [d3] at hsg; cases hsg; simp [hna, d4]) (by simp [ren]) (hWW rest hW) (hb hby hd) (fun _ _ => ⟨rfl, rfl, by show cells + (H1.length - H.length) ≤ _; omega, by show slots + (tot ws H1 - tot ws H) ≤ _; omega⟩)
          exact hback v' vm₁ B X1 P1 fun target ht => st1.trans ht
        · have E := (S.2.2.2.2 a _ hH).1
          rcases hpd with ⟨wp, ki, wki⟩ | ⟨wd, wsel, rfl⟩
          · obtain ⟨cq, hq1, hq2⟩ := E.cell
            have hpa : s.PrivateAt y' := Cond.privateMethod_at (mvP hZ (hw _ wp) (args := #[]))
            have hsel : (Jvm.Cond.selects y'.cls y' y').before args s = true := by
              have wz : (Jvm.Cond.instantiable y'.cls ki).before args s = true := mvT hZ (hw _ wki)
              obtain ⟨c2, k2, i1, i2, -, i4, -⟩ := Cond.instantiable_spec wz
              exact selects_self_of_private i1 i2 (Bool.or_eq_false_iff.mp i4).1 hpa (mvT hZ (hw _ wi)) w5
            obtain ⟨v', vm₁, B, -, X1, P1, st1⟩ := X.privateBack hx (y := y') hown (mvT hZ (hw _ w1)) (mvT hZ (hw _ wi)) hsel hpa (mvT hZ (hw _ w2)) w5 hB (g := fr (adr k sa n0) m pc ls (as'.reverse ++ .ref a :: rest)) rfl hsz (Steps.refl _) (a := adr k sa n0 a) hq1 hq2 (argsL := as'.map (ren (adr k sa n0))) (rest := rest.map (ren (adr k sa n0)))
              (fun sg hsg => by rw [d3] at hsg; cases hsg; simp [hna, d4]) (by simp [ren]) (hWW rest hW) (hb hby hd) (fun _ _ => ⟨rfl, rfl, by show cells + (H1.length - H.length) ≤ _; omega, by show slots + (tot ws H1 - tot ws H) ≤ _; omega⟩)
            exact hback v' vm₁ B X1 P1 fun target ht => st1.trans ht
          · obtain ⟨cq, kq, qa, qb, qc⟩ := isOf hZ rfl E
            obtain ⟨v', vm₁, B, -, X1, P1, st1⟩ := X.virtualBack hx (y := y') (z := y') hown (mvT hZ (hw _ w1)) (mvT hZ (hw _ wd)) (notFace_of_selects (args := #[]) (mvT hZ (hw _ wsel))) (mvT hZ (hw _ wsel)) (mvT hZ (hw _ wi)) w5 hB qa qc (g := fr (adr k sa n0) m pc ls (as'.reverse ++ .ref a :: rest)) rfl hsz (Steps.refl _) (argsL := as'.map (ren (adr k sa n0))) (rest := rest.map (ren (adr k sa n0)))
              (fun sg hsg => by rw [d3] at hsg; cases hsg; simp [hna, d4]) (by simp [ren]) (hWW rest hW) (hb hby hd) (fun _ _ => ⟨rfl, rfl, by show cells + (H1.length - H.length) ≤ _; omega, by show slots + (tot ws H1 - tot ws H) ≤ _; omega⟩)
            exact hback v' vm₁ B X1 P1 fun target ht => st1.trans ht
      · cases h
end Snd
end Jvm.Own
namespace Jvm.Own
open Sem ClassFile Op Lib Jvm.Stand Jvm.Free Jvm.LawKit Jvm.RoadKit
/-! OWN 6: from here on no machine is in sight -/
theorem run_succ {ws : Ws} {dn : Dn} {k : Nat} : ∀ {n : Nat} {y : MethodName} {bytes : ByteArray} {ret : Option FieldType} {pc : Nat} {ls : List Slot} {st : List Value} {H : AHeap} {r : Option Value × AHeap}, run ws dn k n y bytes ret pc ls st H = some r → run ws dn k (n + 1) y bytes ret pc ls st H = some r
  | 0, _, _, _, _, _, _, _, _, h => by cases h
  | n + 1, y, bytes, ret, pc, ls, st, H, r, h => by
    rw [run] at h
    rw [run]
    split at h
    · cases h
    · exact h
    · exact run_succ h
    · split at h
      · rename_i v H1 g
        rw [run_succ g]
        exact run_succ h
      · cases h
theorem run_mono {ws : Ws} {dn : Dn} {k n n' : Nat} {y : MethodName} {bytes : ByteArray} {ret : Option FieldType} {pc : Nat} {ls : List Slot} {st : List Value} {H : AHeap} {r : Option Value × AHeap} (hn : n ≤ n') (h : run ws dn k n y bytes ret pc ls st H = some r) : run ws dn k n' y bytes ret pc ls st H = some r := by
  induction hn with
  | refl => exact h
  | step _ ih => exact run_succ ih
/-- from here on a run comes to a return at which Q holds -/
def W (ws : Ws) (dn : Dn) (k : Nat) (y : MethodName) (bytes : ByteArray) (ret : Option FieldType) (pc : Nat) (ls : List Slot) (st : List Value) (H : AHeap) (Q : Option Value → AHeap → Prop) : Prop :=
  ∃ n v H', run ws dn k n y bytes ret pc ls st H = some (v, H') ∧ Q v H'
section
variable {ws : Ws} {dn : Dn} {k : Nat} {y : MethodName} {bytes : ByteArray} {ret : Option FieldType} {pc : Nat} {ls : List Slot} {st : List Value} {H : AHeap} {Q : Option Value → AHeap → Prop}
theorem W_step {pc' : Nat} {ls' : List Slot} {st' : List Value} {H' : AHeap} (h : act ws dn k y bytes ret pc ls st H = some (.inr (.inl (pc', ls', st', H')))) : W ws dn k y bytes ret pc ls st H Q = W ws dn k y bytes ret pc' ls' st' H' Q := by
  refine propext ⟨fun ⟨n, v, H1, h1, h2⟩ => ?_, fun ⟨n, v, H1, h1, h2⟩ => ⟨n + 1, v, H1, by rw [run, h]; exact h1, h2⟩⟩
  cases n with
  | zero => cases h1
  | succ n => rw [run, h] at h1; exact ⟨n, v, H1, h1, h2⟩
theorem W_ret {v : Option Value} (h : act ws dn k y bytes ret pc ls st H = some (.inl v)) : W ws dn k y bytes ret pc ls st H Q = Q v H := by
  refine propext ⟨fun ⟨n, v, H1, h1, h2⟩ => ?_, fun h2 => ⟨1, v, H, by rw [run, h], h2⟩⟩
  cases n with
  | zero => cases h1
  | succ n => rw [run, h] at h1; cases h1; exact h2
theorem W_call {y' : MethodName} {b : ByteArray} {r : Option FieldType} {en : List Slot} {rest : List Value} (h : act ws dn k y bytes ret pc ls st H = some (.inr (.inr (y', b, r, en, rest)))) :
    W ws dn k y bytes ret pc ls st H Q = W ws dn k y' b r 0 en [] H (fun v H1 => W ws dn k y bytes ret (pc + 3) ls (v.toList ++ rest) H1 Q) := by
  refine propext ⟨fun ⟨n, v, H1, h1, h2⟩ => ?_, fun ⟨n, v, H1, h1, n', v', H', h2, h3⟩ => ⟨max n n' + 1, v', H', ?_, h3⟩⟩
  · cases n with
    | zero => cases h1
    | succ n =>
      rw [run, h] at h1
      dsimp only at h1
      split at h1
      · rename_i v' H' g; exact ⟨n, v', H', g, n, v, H1, h1, h2⟩
      · cases h1
  · rw [run, h]
    dsimp only
    rw [run_mono (Nat.le_max_left _ _) h1]
    exact run_mono (Nat.le_max_right _ _) h2
theorem W.mono {Q' : Option Value → AHeap → Prop} (h : W ws dn k y bytes ret pc ls st H Q) (hq : ∀ v H', Q v H' → Q' v H') : W ws dn k y bytes ret pc ls st H Q' := by
  obtain ⟨n, v, H', h1, h2⟩ := h; exact ⟨n, v, H', h1, hq _ _ h2⟩
theorem act_x {ins : Instr} {len pc' : Nat} {ls' : List Slot} {st' : List Value} (hd : decode bytes pc = .ok (ins, len)) (hx : xstep ins len pc ls st = some (pc', ls', st')) : act ws dn k y bytes ret pc ls st H = some (.inr (.inl (pc', ls', st', H))) := by
  unfold act; rw [hd]; dsimp only; rw [hx]
theorem act_h {ins : Instr} {len pc' : Nat} {st' : List Value} {H' : AHeap} (hd : decode bytes pc = .ok (ins, len)) (hx : xstep ins len pc ls st = none) (hh : hstep ws k y ins len pc st H = some (pc', st', H')) : act ws dn k y bytes ret pc ls st H = some (.inr (.inl (pc', ls, st', H'))) := by
  unfold act; rw [hd]; dsimp only; rw [hx]; dsimp only; rw [hh]
theorem act_c {ins : Instr} {len : Nat} (hd : decode bytes pc = .ok (ins, len)) (hx : xstep ins len pc ls st = none) (hh : hstep ws k y ins len pc st H = none) : act ws dn k y bytes ret pc ls st H = cstep ws dn y ret ins len pc ls st H := by
  unfold act; rw [hd]; dsimp only; rw [hx]; dsimp only; rw [hh]
/-- a plain step -/
theorem w_x {ins : Instr} {len pc' : Nat} {ls' : List Slot} {st' : List Value} (hd : decode bytes pc = .ok (ins, len)) (hx : xstep ins len pc ls st = some (pc', ls', st')) : W ws dn k y bytes ret pc ls st H Q = W ws dn k y bytes ret pc' ls' st' H Q := W_step (act_x hd hx)
/-- a conditional branch -/
theorem w_if {cd : ClassFile.Cond} {o : Int} {x : Int32} {t : Nat} {P : Prop} [Decidable P] (hd : decode bytes pc = .ok (.ifCond cd o, 3)) (hp : ifCond.holds cd x = decide P) (hj : jmp pc o = some t) :
    W ws dn k y bytes ret pc ls (.int x :: st) H Q = if P then W ws dn k y bytes ret t ls st H Q else W ws dn k y bytes ret (pc + 3) ls st H Q := by
  split
  · exact w_x hd (by simp only [xstep, chk, br, hp, hj, if_true]; simp [*])
  · exact w_x hd (by simp only [xstep, chk, br, hp, hj, if_true]; simp [*])
theorem w_icmp {cd : ClassFile.Cond} {o : Int} {x1 x2 : Int32} {t : Nat} {P : Prop} [Decidable P] (hd : decode bytes pc = .ok (.if_icmp cd o, 3)) (hp : if_icmp.holds cd x1 x2 = decide P) (hj : jmp pc o = some t) :
    W ws dn k y bytes ret pc ls (.int x2 :: .int x1 :: st) H Q = if P then W ws dn k y bytes ret t ls st H Q else W ws dn k y bytes ret (pc + 3) ls st H Q := by
  split
  · exact w_x hd (by simp only [xstep, chk, br, hp, hj, if_true]; simp [*])
  · exact w_x hd (by simp only [xstep, chk, br, hp, hj, if_true]; simp [*])
theorem w_get {i j : Nat} {a : Nat} {C : String} {vs : List Value} {v : Value} (hd : decode bytes pc = .ok (.getfield i, 3)) (hr : gfR ws y.cls i = some (C, j)) (ho : H[a]? = some (.object C, vs)) (hv : vs[j]? = some v) :
    W ws dn k y bytes ret pc ls (.ref a :: st) H Q = W ws dn k y bytes ret (pc + 3) ls (v :: st) H Q :=
  W_step (act_h hd rfl (by simp only [hstep, chk, hGet, hr, ho, hv, if_true, Option.map_some]))
theorem w_put {i j : Nat} {a : Nat} {C : String} {ty : FieldType} {vs : List Value} {v v' : Value} {H' : AHeap} (hd : decode bytes pc = .ok (.putfield i, 3)) (hr : pfR ws y.cls y.name i = some (C, j, ty)) (ho : H[a]? = some (.object C, vs)) (hk : k ≤ a) (hj : j < vs.length) (hv : putv ty v = some v') (hH : H.set a (.object C, vs.set j v') = H') :
    W ws dn k y bytes ret pc ls (v :: .ref a :: st) H Q = W ws dn k y bytes ret (pc + 3) ls st H' Q :=
  W_step (act_h hd rfl (by simp only [hstep, chk, hPut, hr, ho, hv, if_true, true_and, hk, hj, Option.map_some, hH, and_self]))
theorem w_new {i : Nat} {C : String} (hd : decode bytes pc = .ok (.new i, 3)) (hr : hNew ws y.cls i pc H st = some (pc + 3, .ref H.length :: st, H ++ [(.object C, (olay ws C).map dflt)])) :
    W ws dn k y bytes ret pc ls st H Q = W ws dn k y bytes ret (pc + 3) ls (.ref H.length :: st) (H ++ [(.object C, (olay ws C).map dflt)]) Q :=
  W_step (act_h hd rfl (by simp only [hstep, chk, if_true]; exact hr))
theorem w_newA {aty : ArrayType} {n : Int32} {ty : FieldType} (hd : decode bytes pc = .ok (.newarray aty, 2)) (ht : newarray.typeOf aty = ty) (hr : hasArr ws ty = true) (hn : ¬ n < 0) (hb : n.toNatClampNeg * 8 ≤ 536870912) :
    W ws dn k y bytes ret pc ls (.int n :: st) H Q = W ws dn k y bytes ret (pc + 2) ls (.ref H.length :: st) (H ++ [(.array ty, List.replicate n.toNatClampNeg (defaultValue ty))]) Q := by
  subst ht
  exact W_step (act_h hd rfl (by simp only [hstep, chk, hNewA, hr, hn, hb, if_true, not_false_eq_true, and_self]))
/-- may the instruction read an array of that kind? -/
def ldOk : Instr → FieldType → Bool
  | .iaload, .int | .caload, .char | .laload, .long | .baload, .byte | .baload, .boolean => true
  | _, _ => false
def stOk : Instr → FieldType → Bool
  | .iastore, .int | .castore, .char | .lastore, .long | .bastore, .byte | .bastore, .boolean => true
  | _, _ => false
theorem w_ald {ins : Instr} {a : Nat} {j : Int32} {ty : FieldType} {vs : List Value} {v : Value} (hd : decode bytes pc = .ok (ins, 1)) (hi : ldOk ins ty = true) (ho : H[a]? = some (.array ty, vs)) (hj : ¬ j < 0) (hv : vs[j.toNatClampNeg]? = some v) :
    W ws dn k y bytes ret pc ls (.int j :: .ref a :: st) H Q = W ws dn k y bytes ret (pc + 1) ls (v :: st) H Q := by
  unfold ldOk at hi
  split at hi
  all_goals first
    | exact W_step (act_h hd rfl (by simp only [hstep, chk, hLd, okT, okB, ho, hv, hj, if_true, Option.map_some, decide_true, not_false_eq_true, and_self, Bool.or_true, Bool.true_or]))
    | cases hi
theorem w_ast {ins : Instr} {a : Nat} {j : Int32} {ty : FieldType} {vs : List Value} {v v' : Value} {H' : AHeap} (hd : decode bytes pc = .ok (ins, 1)) (hi : stOk ins ty = true) (ho : H[a]? = some (.array ty, vs)) (hk : k ≤ a) (hj : ¬ j < 0) (hl : j.toNatClampNeg < vs.length) (hv : putv ty v = some v') (hH : H.set a (.array ty, vs.set j.toNatClampNeg v') = H') :
    W ws dn k y bytes ret pc ls (v :: .int j :: .ref a :: st) H Q = W ws dn k y bytes ret (pc + 1) ls st H' Q := by
  unfold stOk at hi
  split at hi
  all_goals first
    | exact W_step (act_h hd rfl (by simp only [hstep, chk, hSt, okT, okB, ho, hv, hj, hk, hl, hH, if_true, Option.map_some, decide_true, not_false_eq_true, and_self, Bool.or_true, Bool.true_or]))
    | cases hi
theorem w_len {a : Nat} {ty : FieldType} {vs : List Value} (hd : decode bytes pc = .ok (.arraylength, 1)) (ho : H[a]? = some (.array ty, vs)) :
    W ws dn k y bytes ret pc ls (.ref a :: st) H Q = W ws dn k y bytes ret (pc + 1) ls (.int vs.length.toInt32 :: st) H Q :=
  W_step (act_h hd rfl (by simp only [hstep, chk, hLen, ho, if_true]))
theorem w_ldc {i : Nat} {v : Int32} (hd : decode bytes pc = .ok (.ldc i, 2)) (hr : rCon ws y.cls i = some v) : W ws dn k y bytes ret pc ls st H Q = W ws dn k y bytes ret (pc + 2) ls (.int v :: st) H Q :=
  W_step (act_h hd rfl (by simp only [hstep, chk, hr, if_true, Option.map_some]))
theorem w_ldcw {i : Nat} {v : Int32} (hd : decode bytes pc = .ok (.ldc_w i, 3)) (hr : rCon ws y.cls i = some v) : W ws dn k y bytes ret pc ls st H Q = W ws dn k y bytes ret (pc + 3) ls (.int v :: st) H Q :=
  W_step (act_h hd rfl (by simp only [hstep, chk, hr, if_true, Option.map_some]))
theorem w_ldc2 {i : Nat} {v : Int64} (hd : decode bytes pc = .ok (.ldc2_w i, 3)) (hr : rConL ws y.cls i = some v) : W ws dn k y bytes ret pc ls st H Q = W ws dn k y bytes ret (pc + 3) ls (.long v :: st) H Q :=
  W_step (act_h hd rfl (by simp only [hstep, chk, hr, if_true, Option.map_some]))
theorem w_iret {z : Int32} (hd : decode bytes pc = .ok (.ireturn, 1)) (hr : ret = some .int) : W ws dn k y bytes ret pc ls (.int z :: st) H Q = Q (some (.int z)) H := by
  subst hr; exact W_ret (by rw [act_c hd rfl rfl]; rfl)
theorem w_iretN {z : Int32} {t : FieldType} (hd : decode bytes pc = .ok (.ireturn, 1)) (hr : ret = some t) (ht : t = .int ∨ t = .boolean ∨ t = .byte ∨ t = .char ∨ t = .short) : W ws dn k y bytes ret pc ls (.int z :: st) H Q = Q (some (.int (nar t z))) H := by
  subst hr; exact W_ret (by rw [act_c hd rfl rfl]; simp only [cstep, chk, if_true, ht])
theorem w_lret {z : Int64} (hd : decode bytes pc = .ok (.lreturn, 1)) (hr : ret = some .long) : W ws dn k y bytes ret pc ls [.long z] H Q = Q (some (.long z)) H := by
  subst hr; exact W_ret (by rw [act_c hd rfl rfl]; rfl)
theorem w_vret (hd : decode bytes pc = .ok (.return_, 1)) (hr : ret = none) : W ws dn k y bytes ret pc ls [] H Q = Q none H := by
  subst hr; exact W_ret (by rw [act_c hd rfl rfl]; rfl)
theorem w_obj {i sl : Nat} {a : Nat} (hd : decode bytes pc = .ok (.invokespecial i, 3)) (hr : oR ws dn y i = some sl) (hw : wsum st ≤ sl) : W ws dn k y bytes ret pc ls (.ref a :: st) H Q = W ws dn k y bytes ret (pc + 3) ls st H Q :=
  W_step (by rw [act_c hd rfl rfl]; simp only [cstep, chk, if_true, hr, hw])
theorem w_stat {i mx na sl : Nat} {y' : MethodName} {b : ByteArray} {r : Option FieldType} {as rest : List Value} {en : List Slot} (hd : decode bytes pc = .ok (.invokestatic i, 3)) (hr : sR ws dn y i = some (y', b, mx, r, na, sl)) (hn : as.length = na) (hw : wsum rest ≤ sl) (he : (ent as.reverse).length ≤ mx) (hen : entry as.reverse mx = en) :
    W ws dn k y bytes ret pc ls (as ++ rest) H Q = W ws dn k y' b r 0 en [] H (fun v H1 => W ws dn k y bytes ret (pc + 3) ls (v.toList ++ rest) H1 Q) := by
  subst hn hen
  have e1 : (as ++ rest).take as.length = as := by simp
  have e2 : (as ++ rest).drop as.length = rest := by simp
  exact W_call (by rw [act_c hd rfl rfl]; simp only [cstep, chk, if_true, hr, e1, e2, hw, he, List.length_append, Nat.le_add_right, and_self])
theorem w_spec {i mx na sl a : Nat} {y' : MethodName} {b : ByteArray} {r : Option FieldType} {as rest : List Value} {en : List Slot} (hd : decode bytes pc = .ok (.invokespecial i, 3)) (h0 : oR ws dn y i = none) (hr : nR ws dn y i = some (y', b, mx, r, na, sl)) (hn : as.length = na) (hw : wsum rest ≤ sl) (he : (ent (.ref a :: as.reverse)).length ≤ mx) (hen : entry (.ref a :: as.reverse) mx = en) :
    W ws dn k y bytes ret pc ls (as ++ .ref a :: rest) H Q = W ws dn k y' b r 0 en [] H (fun v H1 => W ws dn k y bytes ret (pc + 3) ls (v.toList ++ rest) H1 Q) := by
  subst hn hen
  have e1 : (as ++ .ref a :: rest).take as.length = as := by simp
  have e2 : (as ++ .ref a :: rest).drop as.length = .ref a :: rest := by simp
  exact W_call (by rw [act_c hd rfl rfl]; simp only [cstep, chk, if_true, h0, hr, e1, e2, hw, he, List.length_append, Nat.le_add_right, and_self])
theorem w_virt {i mx na sl a : Nat} {pv : Bool} {y' : MethodName} {b : ByteArray} {r : Option FieldType} {as rest : List Value} {en : List Slot} {C : String} {vs : List Value} (hd : decode bytes pc = .ok (.invokevirtual i, 3)) (hr : vR ws dn y i = some (pv, y', b, mx, r, na, sl)) (ho : H[a]? = some (.object C, vs)) (hC : C = y'.cls) (hn : as.length = na) (hw : wsum rest ≤ sl) (he : (ent (.ref a :: as.reverse)).length ≤ mx) (hen : entry (.ref a :: as.reverse) mx = en) :
    W ws dn k y bytes ret pc ls (as ++ .ref a :: rest) H Q = W ws dn k y' b r 0 en [] H (fun v H1 => W ws dn k y bytes ret (pc + 3) ls (v.toList ++ rest) H1 Q) := by
  subst hn hen hC
  have e1 : (as ++ .ref a :: rest).take as.length = as := by simp
  have e2 : (as ++ .ref a :: rest).drop as.length = .ref a :: rest := by simp
  exact W_call (by rw [act_c hd rfl rfl]; simp only [cstep, chk, if_true, hr, e1, e2, ho, hw, he, List.length_append, Nat.le_add_right, and_self, or_true])
end
theorem law_of {Z : State} {a0 : Array Value} {ws : Ws} {dn : Dn} {k sa n0 : Nat} (hw : ∀ d ∈ ws, d.before a0 Z = true) (l : Launch) {y : MethodName} {b : ByteArray} {mx f lc rc rs : Nat} {r : Option FieldType} (wsx : List Jvm.Cond) (hp : Jvm.plainName y.cls = true) {as : List Value} (he : (ent as).length ≤ mx) {H : AHeap}
    (hW : W ws dn k y b r 0 (entry as mx) [] H (fun v H1 => v = some (.int 1) ∧ H1.length - H.length ≤ rc ∧ tot ws H1 - tot ws H ≤ rs)) (hdn : ∀ f' l', dnOf dn y = some (f', l') → f' ≤ f ∧ l' ≤ lc) {h : Heap} (S : Sim Z ws k sa n0 H h) :
    MetFree l y (head1 (Jvm.Cond.code y b mx r :: wsx) ({ frames := f, cells := rc, slots := rs, locals := lc } : Room)) (fun a U => a = (as.map (ren (adr k sa n0))).toArray ∧ Z.Warmed39 U.vm ∧ U.heap = h) (fun _ _ _ _ _ => True)
      (fun _ U o U' => ∃ w L, o = .returned w ∧ (w = some (.int 1) ∧ Fr n0 L) ∧ FrameEnd U o U' L rc rs) := by
  obtain ⟨n, v, H1, h1, rfl, h3, h4⟩ := hW
  have M := met_of (snd hw n) l wsx hp he h1 hdn S h3 h4
  intro p e ha hc hk s m args below hf happ hP hK
  obtain ⟨n', o, g1, g2, g3, w, L, rfl, ⟨rfl, -, N⟩, F⟩ := M p e ha hc hk s m args below hf happ hP hK
  exact ⟨n', _, g1, g2, g3, _, L, rfl, ⟨rfl, N⟩, F.1, F.2.1, F.2.2.mono h3 h4⟩
/-- the start of a law whose arguments hold no reference -/
theorem Sim.empty (Z : State) (ws : Ws) (h : Heap) : Sim Z ws 0 0 h.size [] h :=
  ⟨by simp, Nat.le_refl _, Nat.zero_le _, (fun q => absurd q (by decide)), (fun i o q => by simp at q)⟩
/-- the start of a law over one array of ints -/
theorem Sim.script {Z : State} (ws : Ws) {h : Heap} {a : Addr} {c : Cell} {vs : List Int32} (A : Arr Z h a c .int) (e : c.slots = (vs.map Value.int).toArray) : Sim Z ws 1 a h.size [(.array .int, vs.map Value.int)] h := by
  refine ⟨by simp, Nat.le_refl _, Nat.le_refl _, fun _ => A.lt, fun i o q => ?_⟩
  cases i with
  | zero =>
    cases q
    refine ⟨c, A, e.trans ?_⟩
    rw [List.map_map]; rfl
  | succ i => cases q
end Jvm.Own
namespace Jvm.Own
open Sem ClassFile Op Lib Jvm.Stand Jvm.Free Jvm.LawKit Jvm.RoadKit
/-! OWN 7: states of an object as plain functions -/
def ou {α : Type} (s : Nat → α) (i : Nat) (v : α) : Nat → α := fun j => if j = i then v else s j
theorem ou_a {α : Type} (s : Nat → α) (i : Nat) (v : α) (j : Nat) : ou s i v j = if j = i then v else s j := rfl
def pad (b : Nat) (pre : AHeap) : AHeap := (pre ++ List.replicate b (FieldType.int, [])).take b
theorem pad_len (b : Nat) (pre : AHeap) : (pad b pre).length = b := by simp [pad]
theorem pad_eq {b : Nat} {pre : AHeap} (h : pre.length = b) : pad b pre = pre := by subst h; simp [pad]
theorem pad_0 (pre : AHeap) : pad 0 pre = [] := by simp [pad]
theorem tot_cons (ws : Ws) (o : FieldType × List Value) (r : AHeap) : tot ws (o :: r) = cost ws o + tot ws r := by simp [tot]
theorem tot_append (ws : Ws) (a r : AHeap) : tot ws (a ++ r) = tot ws a + tot ws r := by simp [tot]
theorem tot_nil (ws : Ws) : tot ws [] = 0 := rfl
theorem pad_get (b : Nat) (pre r : AHeap) (i : Nat) : (pad b pre ++ r)[b + i]? = r[i]? := by
  rw [List.getElem?_append_right (by rw [pad_len]; omega), pad_len]; congr 1; omega
theorem pad_get0 (b : Nat) (pre r : AHeap) : (pad b pre ++ r)[b]? = r[0]? := pad_get b pre r 0
theorem pad_set (b : Nat) (pre r : AHeap) (i : Nat) (o : FieldType × List Value) : (pad b pre ++ r).set (b + i) o = pad b pre ++ r.set i o := by
  rw [List.set_append_right _ _ (by rw [pad_len]; omega), pad_len]; congr 2; omega
theorem pad_set0 (b : Nat) (pre r : AHeap) (o : FieldType × List Value) : (pad b pre ++ r).set b o = pad b pre ++ r.set 0 o := pad_set b pre r 0 o
theorem rCode_of {ws : Ws} {y : MethodName} {b : ByteArray} {m i : Nat} {r : Option FieldType} (h : ws[i]? = some (.code y b m r)) (h2 : (ws.take i).all (fun d => match d with | .code z _ _ _ => !decide (z = y) | _ => true) = true) : rCode ws y = some (b, m, r) := by
  have e : ws = ws.take i ++ (.code y b m r :: ws.drop (i + 1)) := by
    obtain ⟨hi, hg⟩ := List.getElem?_eq_some_iff.mp h
    rw [← hg, ← List.drop_eq_getElem_cons hi, List.take_append_drop]
  unfold rCode
  rw [e, List.findSome?_append]
  have e1 : (ws.take i).findSome? (fun d => match d with | .code z b m r => if z = y then some (b, m, r) else none | _ => none) = none := by
    rw [List.findSome?_eq_none_iff]
    intro d hd
    have q := List.all_eq_true.mp h2 d hd
    split
    · rename_i z b' m' r'
      simp at q
      simp [q]
    · rfl
  rw [e1]
  simp
theorem cR_of {ws : Ws} {dn : Dn} {y y' : MethodName} {b : ByteArray} {mx i f' l' f l na sl : Nat} {r : Option FieldType} {sig : MethodDescriptor} (h1 : rMth ws y.cls i = some y') (h2 : rCode ws y' = some (b, mx, r)) (h3 : dnOf dn y' = some (f', l')) (h4 : dnOf dn y = some (f, l)) (h5 : parseMethodDescriptor y'.desc = some sig)
    (h6 : decide (hasInit ws y'.cls = true ∧ Jvm.plainName y'.cls = true ∧ y'.cls ≠ "java/lang/invoke/MethodHandle" ∧ y'.cls ≠ "java/lang/invoke/VarHandle" ∧ f' + 1 ≤ f ∧ mx + 11 + l' ≤ l) = true) (h7 : sig.parameters.length = na) (h8 : l - (mx + 11 + l') = sl) : cR ws dn y i = some (y', b, mx, r, na, sl) := by
  subst h7 h8
  unfold cR
  rw [h1]; dsimp only
  rw [h2, h3, h4, h5]; dsimp only
  rw [if_pos (of_decide_eq_true h6)]
theorem sR_of {ws : Ws} {dn : Dn} {y : MethodName} {i : Nat} {q : MethodName × ByteArray × Nat × Option FieldType × Nat × Nat} (h : cR ws dn y i = some q) (hs : hasStat ws q.1 = true) : sR ws dn y i = some q := by
  unfold sR; rw [h]; dsimp only; rw [if_pos hs]
theorem nR_of {ws : Ws} {dn : Dn} {y : MethodName} {i : Nat} {q : MethodName × ByteArray × Nat × Option FieldType × Nat × Nat} (h : cR ws dn y i = some q) (h1 : q.1.name = "<init>") (h2 : hasIM ws q.1 = true) (h3 : q.2.2.2.1 = none) : nR ws dn y i = some q := by
  unfold nR; rw [h]; dsimp only; rw [if_pos ⟨h1, h2, h3⟩]
theorem vR_of {ws : Ws} {dn : Dn} {y : MethodName} {i : Nat} {q : MethodName × ByteArray × Nat × Option FieldType × Nat × Nat} (h : cR ws dn y i = some q) (h1 : hasIM ws q.1 = true) (h2 : decide (hasPriv ws q.1 = true ∧ (rInst ws q.1.cls).isSome = true) = false) (h3 : decide (hasDecl ws q.1 = true ∧ hasSel ws q.1 = true) = true) : vR ws dn y i = some (false, q) := by
  unfold vR; rw [h]; dsimp only; rw [if_pos h1, if_neg (of_decide_eq_false h2), if_pos (of_decide_eq_true h3)]
theorem pR_of {ws : Ws} {dn : Dn} {y : MethodName} {i : Nat} {q : MethodName × ByteArray × Nat × Option FieldType × Nat × Nat} (h : cR ws dn y i = some q) (h1 : hasIM ws q.1 = true) (h2 : decide (hasPriv ws q.1 = true ∧ (rInst ws q.1.cls).isSome = true) = true) : vR ws dn y i = some (true, q) := by
  unfold vR; rw [h]; dsimp only; rw [if_pos h1, if_pos (of_decide_eq_true h2)]
def inB {α : Type} (j : Int32) (l : List α) : Prop := ¬ j < 0 ∧ j.toNatClampNeg < l.length
def getA (l : List Int32) (j : Int32) : Int32 := l.getD j.toNatClampNeg 0
def getL (l : List Int64) (j : Int32) : Int64 := l.getD j.toNatClampNeg 0
def setA {α : Type} (l : List α) (j : Int32) (v : α) : List α := l.set j.toNatClampNeg v
def c1 : Slot → Bool
  | .unset => true
  | .second => false
  | .val v => v.category == 1
theorem c1_u : c1 .unset = true := rfl
theorem c1_i (x : Int32) : c1 (.val (.int x)) = true := rfl
theorem c1_r (a : Nat) : c1 (.val (.ref a)) = true := rfl
theorem c1_n : c1 (.val .null) = true := rfl
theorem i_eq (x y : Int32) : if_icmp.holds .eq x y = decide (x = y) := by simp only [if_icmp.holds]; by_cases h : x = y <;> simp [h]
theorem i_ne (x y : Int32) : if_icmp.holds .ne x y = !decide (x = y) := by simp only [if_icmp.holds]; by_cases h : x = y <;> simp [h]
theorem i_lt (x y : Int32) : if_icmp.holds .lt x y = decide (x < y) := rfl
theorem i_gt (x y : Int32) : if_icmp.holds .gt x y = decide (y < x) := rfl
theorem i_ge (x y : Int32) : if_icmp.holds .ge x y = !decide (x < y) := by
  show decide (y ≤ x) = _
  have e1 : (y ≤ x) ↔ ¬ (x < y) := by rw [Int32.le_iff_toInt_le, Int32.lt_iff_toInt_lt]; omega
  by_cases h : x < y
  · have : ¬ y ≤ x := fun g => e1.mp g h
    simp [h, this]
  · have := e1.mpr h
    simp [h, this]
theorem i_le (x y : Int32) : if_icmp.holds .le x y = !decide (y < x) := i_ge y x
theorem z_eq (x : Int32) : ifCond.holds .eq x = decide (x = 0) := i_eq x 0
theorem z_ne (x : Int32) : ifCond.holds .ne x = !decide (x = 0) := i_ne x 0
theorem z_lt (x : Int32) : ifCond.holds .lt x = decide (x < 0) := rfl
theorem z_gt (x : Int32) : ifCond.holds .gt x = decide (0 < x) := rfl
theorem z_ge (x : Int32) : ifCond.holds .ge x = !decide (x < 0) := i_ge x 0
theorem z_le (x : Int32) : ifCond.holds .le x = !decide (0 < x) := i_le x 0
theorem nb0 : nar .boolean 0 = 0 := by decide
theorem nb1 : nar .boolean 1 = 1 := by decide
section
variable {ws : Ws} {dn : Dn} {k : Nat} {y : MethodName} {bytes : ByteArray} {ret : Option FieldType} {pc : Nat} {ls : List Slot} {st : List Value} {H : AHeap} {Q : Option Value → AHeap → Prop}
theorem W_stuck (h : act ws dn k y bytes ret pc ls st H = none) : W ws dn k y bytes ret pc ls st H Q = False := by
  refine propext ⟨fun ⟨n, v, H1, h1, h2⟩ => ?_, False.elim⟩
  cases n with
  | zero => cases h1
  | succ n => rw [run, h] at h1; cases h1
theorem stl_c1 {i : Nat} {o : Slot} {v : Value} (ho : ls[i]? = some o) (hc : c1 o = true) (hv : v.category = 1) : stl ls i v = some (ls.set i (.val v)) := by
  have h := XS.store1 (l := ls.toArray) (i := i) (v := v) (o := o) (by simpa using ho) (by
    cases o with
    | unset => exact Or.inl rfl
    | second => cases hc
    | val w => exact Or.inr ⟨w, rfl, by simpa [c1] using hc⟩) hv
  unfold stl
  rw [h]; simp
/-- a store of one word -/
theorem w_st {ins : Instr} {len i : Nat} {o : Slot} {v : Value} {p : Value → Bool} {nx : Nat} {ls' : List Slot} (hd : decode bytes pc = .ok (ins, len)) (hx : xstep ins len pc ls (v :: st) = stV p nx i ls (v :: st)) (hp : p v = true) (hv : v.category = 1) (ho : ls[i]? = some o) (hs : ls.set i (.val v) = ls') (hc : c1 o = true) :
    W ws dn k y bytes ret pc ls (v :: st) H Q = W ws dn k y bytes ret nx ls' st H Q := by
  subst hs
  exact w_x hd (by rw [hx]; simp only [stV, hp, if_true, stl_c1 ho hc hv, Option.map_some])
theorem w_iinc {i : Nat} {c : Int} {x z : Int32} {ls' : List Slot} (hd : decode bytes pc = .ok (.iinc i c, 3)) (ho : ls[i]? = some (.val (.int x))) (hz : Int32.ofInt c = z) (hs : ls.set i (.val (.int (x + z))) = ls') :
    W ws dn k y bytes ret pc ls st H Q = W ws dn k y bytes ret (pc + 3) ls' st H Q := by
  subst hs hz
  exact w_x hd (by simp only [xstep, chk, if_true, ho, stl_c1 (v := .int (x + Int32.ofInt c)) ho rfl rfl, Option.map_some])
theorem w_con {ins : Instr} {len nx : Nat} {v v' : Value} (hd : decode bytes pc = .ok (ins, len)) (hx : xstep ins len pc ls st = some (nx, ls, v :: st)) (hv : v = v') : W ws dn k y bytes ret pc ls st H Q = W ws dn k y bytes ret nx ls (v' :: st) H Q := by
  subst hv; exact w_x hd hx
theorem w_ifN {cd : ClassFile.Cond} {o : Int} {x : Int32} {t : Nat} {P : Prop} [Decidable P] (hd : decode bytes pc = .ok (.ifCond cd o, 3)) (hp : ifCond.holds cd x = !decide P) (hj : jmp pc o = some t) :
    W ws dn k y bytes ret pc ls (.int x :: st) H Q = if P then W ws dn k y bytes ret (pc + 3) ls st H Q else W ws dn k y bytes ret t ls st H Q := by
  split
  · exact w_x hd (by simp only [xstep, chk, br, hp, hj, if_true]; simp [*])
  · exact w_x hd (by simp only [xstep, chk, br, hp, hj, if_true]; simp [*])
theorem w_icmpN {cd : ClassFile.Cond} {o : Int} {x1 x2 : Int32} {t : Nat} {P : Prop} [Decidable P] (hd : decode bytes pc = .ok (.if_icmp cd o, 3)) (hp : if_icmp.holds cd x1 x2 = !decide P) (hj : jmp pc o = some t) :
    W ws dn k y bytes ret pc ls (.int x2 :: .int x1 :: st) H Q = if P then W ws dn k y bytes ret (pc + 3) ls st H Q else W ws dn k y bytes ret t ls st H Q := by
  split
  · exact w_x hd (by simp only [xstep, chk, br, hp, hj, if_true]; simp [*])
  · exact w_x hd (by simp only [xstep, chk, br, hp, hj, if_true]; simp [*])
theorem ld_stuck {ins : Instr} {a : Nat} {j : Int32} {ty : FieldType} {vs : List Value} (hd : decode bytes pc = .ok (ins, 1)) (hi : ldOk ins ty = true) (ho : H[a]? = some (.array ty, vs)) (hj : ¬ (¬ j < 0 ∧ j.toNatClampNeg < vs.length)) : act ws dn k y bytes ret pc ls (.int j :: .ref a :: st) H = none := by
  have hv : j < 0 ∨ vs[j.toNatClampNeg]? = none := by
    by_cases q : j < 0
    · exact Or.inl q
    · exact Or.inr (List.getElem?_eq_none (Nat.le_of_not_lt fun g => hj ⟨q, g⟩))
  unfold ldOk at hi
  split at hi
  all_goals first
    | (rw [act_c hd rfl (by rcases hv with q | q <;> simp [hstep, chk, hLd, okT, okB, ho, q])]; rfl)
    | cases hi
theorem st_stuck {ins : Instr} {a : Nat} {j : Int32} {ty : FieldType} {vs : List Value} {v : Value} (hd : decode bytes pc = .ok (ins, 1)) (hi : stOk ins ty = true) (ho : H[a]? = some (.array ty, vs)) (hj : ¬ (¬ j < 0 ∧ j.toNatClampNeg < vs.length)) : act ws dn k y bytes ret pc ls (v :: .int j :: .ref a :: st) H = none := by
  have hv : ¬ (¬ j < 0 ∧ j.toNatClampNeg < vs.length) := hj
  unfold stOk at hi
  split at hi
  all_goals first
    | (rw [act_c hd rfl (by simp only [hstep, chk, hSt, okT, okB, ho, if_true]; rw [if_neg (fun q => hv q.2.2)])]; rfl)
    | cases hi
theorem w_ild {ins : Instr} {a : Nat} {j : Int32} {ty : FieldType} {l : List Int32} (hd : decode bytes pc = .ok (ins, 1)) (hi : ldOk ins ty = true) (ho : H[a]? = some (.array ty, l.map Value.int)) :
    W ws dn k y bytes ret pc ls (.int j :: .ref a :: st) H Q = (inB j l ∧ W ws dn k y bytes ret (pc + 1) ls (.int (getA l j) :: st) H Q) := by
  by_cases h : inB j l
  · rw [w_ald hd hi ho h.1 (v := .int (getA l j)) (by simp [getA, h.2])]
    simp [h]
  · rw [W_stuck (ld_stuck hd hi ho (by simpa [inB] using h))]
    simp [h]
theorem w_lld {a : Nat} {j : Int32} {l : List Int64} (hd : decode bytes pc = .ok (.laload, 1)) (ho : H[a]? = some (.array .long, l.map Value.long)) :
    W ws dn k y bytes ret pc ls (.int j :: .ref a :: st) H Q = (inB j l ∧ W ws dn k y bytes ret (pc + 1) ls (.long (getL l j) :: st) H Q) := by
  by_cases h : inB j l
  · rw [w_ald hd rfl ho h.1 (v := .long (getL l j)) (by simp [getL, h.2])]
    simp [h]
  · rw [W_stuck (ld_stuck hd rfl ho (by simpa [inB] using h))]
    simp [h]
theorem w_ist {ins : Instr} {a : Nat} {j v v' : Int32} {ty : FieldType} {l : List Int32} {H' : AHeap} (hd : decode bytes pc = .ok (ins, 1)) (hi : stOk ins ty = true) (ho : H[a]? = some (.array ty, l.map Value.int)) (hk : k ≤ a) (hv : putv ty (.int v) = some (.int v')) (hH : H.set a (.array ty, (setA l j v').map Value.int) = H') :
    W ws dn k y bytes ret pc ls (.int v :: .int j :: .ref a :: st) H Q = (inB j l ∧ W ws dn k y bytes ret (pc + 1) ls st H' Q) := by
  by_cases h : inB j l
  · rw [w_ast (H' := H') hd hi ho hk h.1 (by simpa using h.2) hv (by rw [← hH, setA, List.map_set])]
    simp [h]
  · rw [W_stuck (st_stuck hd hi ho (by simpa [inB] using h))]
    simp [h]
theorem w_lst {a : Nat} {j : Int32} {v : Int64} {l : List Int64} {H' : AHeap} (hd : decode bytes pc = .ok (.lastore, 1)) (ho : H[a]? = some (.array .long, l.map Value.long)) (hk : k ≤ a) (hH : H.set a (.array .long, (setA l j v).map Value.long) = H') :
    W ws dn k y bytes ret pc ls (.long v :: .int j :: .ref a :: st) H Q = (inB j l ∧ W ws dn k y bytes ret (pc + 1) ls st H' Q) := by
  by_cases h : inB j l
  · rw [w_ast (H' := H') hd rfl ho hk h.1 (by simpa using h.2) rfl (by rw [← hH, setA, List.map_set])]
    simp [h]
  · rw [W_stuck (st_stuck hd rfl ho (by simpa [inB] using h))]
    simp [h]
theorem w_div {ins : Instr} {f : Int32 → Int32 → Int32} {x z : Int32} (hd : decode bytes pc = .ok (ins, 1)) (hx : ∀ st, xstep ins 1 pc ls st = d2 f (pc + 1) ls st) (hh : hstep ws k y ins 1 pc (.int z :: .int x :: st) H = none) (hc : cstep ws dn y ret ins 1 pc ls (.int z :: .int x :: st) H = none) :
    W ws dn k y bytes ret pc ls (.int z :: .int x :: st) H Q = (z ≠ 0 ∧ W ws dn k y bytes ret (pc + 1) ls (.int (f x z) :: st) H Q) := by
  by_cases h : z = 0
  · rw [W_stuck (by rw [act_c hd (by rw [hx]; simp [d2, h]) hh, hc])]; simp [h]
  · rw [w_x (pc' := pc + 1) (ls' := ls) (st' := .int (f x z) :: st) hd (by rw [hx]; simp only [d2, h, if_false])]; simp [h]
/-- a field's array made in a constructor -/
theorem w_iarr {i j p1 p2 p3 : Nat} {C : String} {vs : List Value} {r : AHeap} {n : Int32} {v : Value} {aty : ArrayType} {ty at' : FieldType} {l0 : Slot} {lr : List Slot} {ins : Instr} {len : Nat} {b : Nat} (hl : l0 = .val (.ref b)) (hH : H.length = b) (hk : k ≤ b)
    (d0 : decode bytes pc = .ok (.aload_n 0, 1)) (e0 : pc + 1 = p1) (dn1 : decode bytes p1 = .ok (ins, len)) (hx : ∀ st, xstep ins len p1 (l0 :: lr) st = some (p2, l0 :: lr, v :: st)) (hv : v = .int n) (d2' : decode bytes p2 = .ok (.newarray aty, 2)) (ht : newarray.typeOf aty = ty) (hr : hasArr ws ty = true) (hn : ¬ n < 0) (hb : n.toNatClampNeg * 8 ≤ 536870912) (e3 : p2 + 2 = p3)
    (d3 : decode bytes p3 = .ok (.putfield i, 3)) (hp : pfR ws y.cls y.name i = some (C, j, .array at')) (hj : j < vs.length) :
    W ws dn k y bytes ret pc (l0 :: lr) [] (H ++ (.object C, vs) :: r) Q = W ws dn k y bytes ret (p3 + 3) (l0 :: lr) [] (H ++ (.object C, vs.set j (.ref (b + (r.length + 1)))) :: (r ++ [(.array ty, List.replicate n.toNatClampNeg (defaultValue ty))])) Q := by
  subst hl e0 e3 hv hH
  rw [w_x d0 (ls' := .val (.ref H.length) :: lr) (st' := [.ref H.length]) (pc' := pc + 1) rfl, w_x dn1 (hx _), w_newA d2' ht hr hn hb]
  have e1 : (H ++ (FieldType.object C, vs) :: r).length = H.length + (r.length + 1) := by simp
  rw [e1, w_put d3 hp (vs := vs) (H' := H ++ (.object C, vs.set j (.ref (H.length + (r.length + 1)))) :: (r ++ [(.array ty, List.replicate n.toNatClampNeg (defaultValue ty))])) (by simp) hk hj rfl (by simp)]
/-- a field's plain value put at a constructor's head -/
theorem w_iint {i j p1 p2 : Nat} {C : String} {vs : List Value} {r : AHeap} {v v0 v' : Value} {ty : FieldType} {l0 : Slot} {lr : List Slot} {ins : Instr} {len : Nat} {b : Nat} (hl : l0 = .val (.ref b)) (hH : H.length = b) (hk : k ≤ b)
    (d0 : decode bytes pc = .ok (.aload_n 0, 1)) (e0 : pc + 1 = p1) (dn1 : decode bytes p1 = .ok (ins, len)) (hx : ∀ st, xstep ins len p1 (l0 :: lr) st = some (p2, l0 :: lr, v0 :: st)) (hv : v0 = v)
    (d3 : decode bytes p2 = .ok (.putfield i, 3)) (hp : pfR ws y.cls y.name i = some (C, j, ty)) (hv' : putv ty v = some v') (hj : j < vs.length) :
    W ws dn k y bytes ret pc (l0 :: lr) [] (H ++ (.object C, vs) :: r) Q = W ws dn k y bytes ret (p2 + 3) (l0 :: lr) [] (H ++ (.object C, vs.set j v') :: r) Q := by
  subst hl e0 hv hH
  rw [w_x d0 (ls' := .val (.ref H.length) :: lr) (st' := [.ref H.length]) (pc' := pc + 1) rfl, w_x dn1 (hx _)]
  rw [w_put d3 hp (vs := vs) (H' := H ++ (.object C, vs.set j v') :: r) (by simp) hk hj hv' (by simp)]
end
end Jvm.Own
namespace Jvm.Own
open Sem ClassFile Op Lib Jvm.Stand Jvm.Free Jvm.LawKit Jvm.RoadKit
theorem getA_rep (n : Nat) (j : Int32) : getA (List.replicate n 0) j = 0 := by
  simp only [getA, List.getD_eq_getElem?_getD, List.getElem?_replicate]
  split <;> rfl
/-- the array's words as plain ints -/
theorem script_of {s : State} {a : Addr} {c : Cell} (hf : Fit s) (A : Arr s s.heap a c .int) (hl : c.slots.size < 2 ^ 31) : ∃ vs : List Int32, c.slots = (vs.map Value.int).toArray := by
  have h : ∀ v ∈ c.slots.toList, ∃ x : Int32, v = .int x := fun v hv => by
    obtain ⟨i, hi, e⟩ := List.getElem_of_mem hv
    have hi' : i < c.slots.size := by simpa using hi
    have e1 : (Nat.toInt32 i).toNatClampNeg = i := by simp only [Int32.toNatClampNeg, len_toInt (Nat.lt_trans hi' hl)]; rfl
    obtain ⟨w, h1, h2⟩ := elem_fit hf A (idx_in hi' hl)
    rw [e1] at h1
    have : w = v := by rw [Array.getElem?_eq_getElem hi'] at h1; rw [← e]; simpa using (Option.some.inj h1).symm
    subst this
    exact fit_I h2 (by simp)
  have g : ∀ l : List Value, (∀ v ∈ l, ∃ x : Int32, v = .int x) → ∃ vs : List Int32, l = vs.map Value.int := fun l => by
    induction l with
    | nil => exact fun _ => ⟨[], rfl⟩
    | cons v r ih =>
      intro q
      obtain ⟨x, rfl⟩ := q _ (List.mem_cons_self ..)
      obtain ⟨vs, e⟩ := ih fun w hw => q w (List.mem_cons_of_mem _ hw)
      exact ⟨x :: vs, by rw [e]; rfl⟩
  obtain ⟨vs, e⟩ := g _ h
  exact ⟨vs, by rw [← e]⟩
end Jvm.Own
namespace Jvm.Own
open Sem ClassFile Op Lib Jvm.Stand Jvm.Free Jvm.LawKit Jvm.RoadKit
/-! OWN 8: small facts on arrays and ints -/
theorem toNat_eq (j : Int32) : j.toNatClampNeg = j.toInt.toNat := rfl
theorem lt_i {x y : Int32} : x < y ↔ x.toInt < y.toInt := Int32.lt_iff_toInt_lt
theorem inB_iff {α : Type} {j : Int32} {l : List α} : inB j l ↔ 0 ≤ j.toInt ∧ j.toInt < (l.length : Int) := by
  have e0 : (0 : Int32).toInt = 0 := rfl
  unfold inB
  rw [lt_i, toNat_eq, e0]
  omega
theorem inB_lt {α : Type} {j n : Int32} {l : List α} (hl : (l.length : Int) = n.toInt) (h0 : ¬ j < 0) (h1 : j < n) : inB j l := by
  have e0 : (0 : Int32).toInt = 0 := rfl
  rw [inB_iff]
  rw [lt_i] at h0 h1
  rw [e0] at h0
  omega
theorem setA_len {α : Type} (l : List α) (j : Int32) (v : α) : (setA l j v).length = l.length := List.length_set
theorem getA_set {l : List Int32} {i j v : Int32} (h : inB i l) : getA (setA l i v) j = if j.toNatClampNeg = i.toNatClampNeg then v else getA l j := by
  simp only [getA, setA, List.getD_eq_getElem?_getD, List.getElem?_set]
  by_cases e : j.toNatClampNeg = i.toNatClampNeg
  · rw [e]; simp [h.2]
  · simp [e, Ne.symm e]
theorem getA_set2 (l : List Int32) (i j v : Int32) : getA (setA l i v) j = if j.toNatClampNeg = i.toNatClampNeg ∧ i.toNatClampNeg < l.length then v else getA l j := by
  simp only [getA, setA, List.getD_eq_getElem?_getD, List.getElem?_set]
  by_cases e : j.toNatClampNeg = i.toNatClampNeg
  · rw [e]
    by_cases q : i.toNatClampNeg < l.length <;> simp [q]
  · simp [e, Ne.symm e]
theorem len_ou {B A : Nat → List Int32} {j : Nat} {l : List Int32} (h : ∀ i, (A i).length = (B i).length) (hl : l.length = (B j).length) : ∀ i, (ou A j l i).length = (B i).length := fun i => by
  rw [ou_a]
  split
  · rename_i e; rw [e]; exact hl
  · exact h i
end Jvm.Own
namespace Jvm.Own
open Sem ClassFile Op Lib Jvm.Stand Jvm.Free Jvm.LawKit Jvm.RoadKit
/-! OWN 9: a normal form of states; masks and ranges -/
theorem ou_same {α : Type} (s : Nat → α) (i : Nat) (v w : α) : ou (ou s i v) i w = ou s i w := by
  funext j
  simp only [ou_a]
  by_cases h : j = i <;> simp [h]
theorem ou_comm {α : Type} {s : Nat → α} {i j : Nat} {v w : α} (h : j < i) : ou (ou s i v) j w = ou (ou s j w) (i + 0) v := by
  show ou (ou s i v) j w = ou (ou s j w) i v
  funext k
  simp only [ou_a]
  by_cases h1 : k = j
  · have h2 : ¬ k = i := by omega
    simp [h1]
    intro h3; omega
  · simp [h1]
theorem setA_same {α : Type} (l : List α) (i : Int32) (v w : α) : setA (setA l i v) i w = setA l i w := by
  simp only [setA, List.set_set]
theorem clamp_ne {i j : Int32} (h0 : ¬ j < 0) (h : j < i) : j.toNatClampNeg ≠ i.toNatClampNeg := by
  have e0 : (0 : Int32).toInt = 0 := rfl
  rw [lt_i] at *
  rw [toNat_eq, toNat_eq]
  omega
theorem setA_comm {α : Type} {l : List α} {i j : Int32} {v w : α} (h0 : ¬ j < 0) (h : j < i) : setA (setA l i v) j w = setA (setA l j w) (i + 0) v := by
  rw [Int32.add_zero]
  simp only [setA]
  exact List.set_comm _ _ (Ne.symm (clamp_ne h0 h))
theorem lt_irr (x : Int32) : (x < x) = False := by
  apply propext
  rw [lt_i]
  constructor
  · intro h; omega
  · exact False.elim
theorem bit1 (x : Int32) : x &&& 1 = 0 ∨ x &&& 1 = 1 := by
  have h : (x &&& 1).toBitVec.toNat = x.toBitVec.toNat % 2 := by
    rw [Int32.toBitVec_and, BitVec.toNat_and]
    exact Nat.and_one_is_mod _
  rcases Nat.mod_two_eq_zero_or_one x.toBitVec.toNat with e | e
  · exact Or.inl (Int32.toBitVec_inj.mp (BitVec.eq_of_toNat_eq (by rw [h, e]; rfl)))
  · exact Or.inr (Int32.toBitVec_inj.mp (BitVec.eq_of_toNat_eq (by rw [h, e]; rfl)))
theorem and_bd (x m : Int32) (hm : m.toBitVec.toNat < 2147483648) : 0 ≤ (x &&& m).toInt ∧ (x &&& m).toInt ≤ (m.toBitVec.toNat : Int) := by
  have h : (x &&& m).toBitVec.toNat ≤ m.toBitVec.toNat := by
    rw [Int32.toBitVec_and, BitVec.toNat_and]
    exact Nat.and_le_right
  have e : (x &&& m).toInt = ((x &&& m).toBitVec.toNat : Int) := BitVec.toInt_eq_toNat_of_lt (by omega)
  rw [e]
  omega
theorem rng {x : Int32} {n : Nat} (h0 : 0 ≤ x.toInt) (h1 : x.toInt < n) : ∃ k, k < n ∧ x = Int32.ofNat k := by
  have e : (x.toInt.toNat : Int) = x.toInt := Int.toNat_of_nonneg h0
  refine ⟨x.toInt.toNat, by omega, ?_⟩
  have e2 : Int32.ofNat x.toInt.toNat = Int32.ofInt (x.toInt.toNat : Int) := rfl
  rw [e2, e, Int32.ofInt_toInt]
theorem getL_rep (n : Nat) (j : Int32) : getL (List.replicate n 0) j = 0 := by
  simp only [getL, List.getD_eq_getElem?_getD, List.getElem?_replicate]
  split <;> rfl
theorem getL_set2 (l : List Int64) (i j : Int32) (v : Int64) : getL (setA l i v) j = if j.toNatClampNeg = i.toNatClampNeg ∧ i.toNatClampNeg < l.length then v else getL l j := by
  simp only [getL, setA, List.getD_eq_getElem?_getD, List.getElem?_set]
  by_cases e : j.toNatClampNeg = i.toNatClampNeg
  · rw [e]
    by_cases q : i.toNatClampNeg < l.length <;> simp [q]
  · simp [e, Ne.symm e]
theorem add_i {a b : Int32} (h : -2147483648 ≤ a.toInt + b.toInt) (h' : a.toInt + b.toInt < 2147483648) : (a + b).toInt = a.toInt + b.toInt := by
  rw [Int32.toInt_add]
  have e : ((2 ^ 32 : Nat) : Int) = 4294967296 := rfl
  exact Int.bmod_eq_of_le (by rw [e]; omega) (by rw [e]; omega)
theorem sub_i {a b : Int32} (h : -2147483648 ≤ a.toInt - b.toInt) (h' : a.toInt - b.toInt < 2147483648) : (a - b).toInt = a.toInt - b.toInt := by
  rw [Int32.toInt_sub]
  have e : ((2 ^ 32 : Nat) : Int) = 4294967296 := rfl
  exact Int.bmod_eq_of_le (by rw [e]; omega) (by rw [e]; omega)
theorem mul_i {a b : Int32} (h : -2147483648 ≤ a.toInt * b.toInt) (h' : a.toInt * b.toInt < 2147483648) : (a * b).toInt = a.toInt * b.toInt := by
  rw [Int32.toInt_mul]
  have e : ((2 ^ 32 : Nat) : Int) = 4294967296 := rfl
  exact Int.bmod_eq_of_le (by rw [e]; omega) (by rw [e]; omega)
theorem i_0 : (0 : Int32).toInt = 0 := rfl
theorem i_1 : (1 : Int32).toInt = 1 := rfl
theorem add1_i {a : Int32} (h : a.toInt < 2147483647) : (a + 1).toInt = a.toInt + 1 := by
  have := Int32.le_toInt a
  exact add_i (by rw [i_1]; omega) (by rw [i_1]; omega)
theorem nn_i {a : Int32} : ¬ a < 0 ↔ 0 ≤ a.toInt := by rw [lt_i, i_0]; omega
theorem succ_nn {a : Int32} (h0 : ¬ a < 0) (h : a.toInt < 2147483647) : ¬ a + 1 < 0 := by
  rw [nn_i] at *
  rw [add1_i h]
  omega
theorem inB_set {α : Type} {l : List α} {i j : Int32} {v : α} : inB j (setA l i v) = inB j l := by
  simp only [inB, setA_len]
theorem pad_1 (c : FieldType × List Value) : pad 1 [c] = [c] := rfl
def okS (l : Slot) : Prop := l = .unset ∨ ∃ z : Int32, l = .val (.int z)
theorem okS_u : okS .unset := Or.inl rfl
theorem okS_i (z : Int32) : okS (.val (.int z)) := Or.inr ⟨z, rfl⟩
end Jvm.Own
namespace Jvm.Pilot.@@N@@
open Jvm Jvm.ClassFile Sem Op Lib Jvm.Free Jvm.Stand Jvm.LawKit Jvm.RoadKit Bundle Jvm.Own Jvm.Pilot.@@N@@.Jvm.D
/-- frames and words that each method asks -/
def dn : Dn := [(⟨"StreamSigScanner", "<init>", "(I)V"⟩, 1, 12), (⟨"StreamSigScanner", "addSigByte", "(I)I"⟩, 1, 13), (⟨"StreamSigScanner", "isByte", "(I)Z"⟩, 0, 0), (⟨"StreamSigScanner", "endSig", "()I"⟩, 0, 0), (⟨"StreamSigScanner", "compile", "()I"⟩, 2, 32), (⟨"StreamSigScanner", "buildTrie", "()V"⟩, 1, 19), (⟨"StreamSigScanner", "clearAutomaton", "()V"⟩, 0, 0), (⟨"StreamSigScanner", "insertSig", "(I)V"⟩, 0, 0), (⟨"StreamSigScanner", "buildAutomaton", "()V"⟩, 0, 0), (⟨"StreamSigScanner", "openSegment", "(I)I"⟩, 1, 13), (⟨"StreamSigScanner", "isOffset", "(I)Z"⟩, 0, 0), (⟨"StreamSigScanner", "segByte", "(I)I"⟩, 1, 13), (⟨"StreamSigScanner", "closeSegment", "()I"⟩, 3, 47), (⟨"StreamSigScanner", "absorbByte", "(III)V"⟩, 1, 13), (⟨"StreamSigScanner", "advanceDelivered", "()V"⟩, 2, 32), (⟨"StreamSigScanner", "stat", "(I)I"⟩, 0, 0), (⟨"StreamSigScanner", "feed", "(II)V"⟩, 1, 14), (⟨"StreamSigScanner", "recordMatch", "(II)V"⟩, 0, 0), (⟨"StreamSigScanner", "matchSig", "(I)I"⟩, 1, 14), (⟨"StreamSigScanner", "validRecord", "(I)Z"⟩, 0, 0), (⟨"StreamSigScanner", "matchEnd", "(I)I"⟩, 1, 14), (⟨"StreamSigScannerL3", "at", "(IIIII)I"⟩, 0, 0), (⟨"StreamSigScannerL3", "law", "(IIIIII)Z"⟩, 4, 61)]
/- scalars: 0=window 1=compiled 2=sigCount 3=endedBytes 4=pendLen 5=nodeCount 6=scanState 7=delivered 8=held 9=conflicts 10=duplicates 11=dropped 12=lastConflict 13=segOpen 14=segStart 15=segLen 16=matchTotal; arrays: 0=sigBytes@1 1=sigStart@2 2=sigLen@3 3=delta@4 4=fail@5 5=outMask@6 6=queue@7 7=present@8 8=stream@9 9=segBuf@10 10=matchSigs@11 11=matchEnds@12; longs: []; long arrays: [] -/
def objv (b : Nat) (s : Nat → Int32) : List Value := [.ref (b + 1), .ref (b + 2), .ref (b + 3), .ref (b + 4), .ref (b + 5), .ref (b + 6), .ref (b + 7), .ref (b + 8), .ref (b + 9), .ref (b + 10), .ref (b + 11), .ref (b + 12), .int (s 0), .int (s 1), .int (s 2), .int (s 3), .int (s 4), .int (s 5), .int (s 6), .int (s 7), .int (s 8), .int (s 9), .int (s 10), .int (s 11), .int (s 12), .int (s 13), .int (s 14), .int (s 15), .int (s 16)]
def put (b : Nat) (pre : AHeap) (s : Nat → Int32) (A : Nat → List Int32) (post : AHeap) : AHeap := pad b pre ++ ((.object "StreamSigScanner", objv b s) :: (.array .int, (A 0).map Value.int) :: (.array .int, (A 1).map Value.int) :: (.array .int, (A 2).map Value.int) :: (.array .int, (A 3).map Value.int) :: (.array .int, (A 4).map Value.int) :: (.array .int, (A 5).map Value.int) :: (.array .int, (A 6).map Value.int) :: (.array .boolean, (A 7).map Value.int) :: (.array .int, (A 8).map Value.int) :: (.array .int, (A 9).map Value.int) :: (.array .int, (A 10).map Value.int) :: (.array .int, (A 11).map Value.int) :: post)
theorem put_o {b : Nat} {pre : AHeap} {s : Nat → Int32} {A : Nat → List Int32} {post : AHeap} : (put b pre s A post)[b]? = some (.object "StreamSigScanner", objv b s) := pad_get0 _ _ _
theorem put_a0 {b : Nat} {pre : AHeap} {s : Nat → Int32} {A : Nat → List Int32} {post : AHeap} : (put b pre s A post)[b + 1]? = some (.array .int, (A 0).map Value.int) := pad_get _ _ _ 1
theorem put_w0 {b : Nat} {pre : AHeap} {s : Nat → Int32} {A : Nat → List Int32} {post : AHeap} {l : List Int32} : (put b pre s A post).set (b + 1) (.array .int, l.map Value.int) = put b pre s (ou A 0 l) post := pad_set _ _ _ 1 _
theorem put_a1 {b : Nat} {pre : AHeap} {s : Nat → Int32} {A : Nat → List Int32} {post : AHeap} : (put b pre s A post)[b + 2]? = some (.array .int, (A 1).map Value.int) := pad_get _ _ _ 2
theorem put_w1 {b : Nat} {pre : AHeap} {s : Nat → Int32} {A : Nat → List Int32} {post : AHeap} {l : List Int32} : (put b pre s A post).set (b + 2) (.array .int, l.map Value.int) = put b pre s (ou A 1 l) post := pad_set _ _ _ 2 _
theorem put_a2 {b : Nat} {pre : AHeap} {s : Nat → Int32} {A : Nat → List Int32} {post : AHeap} : (put b pre s A post)[b + 3]? = some (.array .int, (A 2).map Value.int) := pad_get _ _ _ 3
theorem put_w2 {b : Nat} {pre : AHeap} {s : Nat → Int32} {A : Nat → List Int32} {post : AHeap} {l : List Int32} : (put b pre s A post).set (b + 3) (.array .int, l.map Value.int) = put b pre s (ou A 2 l) post := pad_set _ _ _ 3 _
theorem put_a3 {b : Nat} {pre : AHeap} {s : Nat → Int32} {A : Nat → List Int32} {post : AHeap} : (put b pre s A post)[b + 4]? = some (.array .int, (A 3).map Value.int) := pad_get _ _ _ 4
theorem put_w3 {b : Nat} {pre : AHeap} {s : Nat → Int32} {A : Nat → List Int32} {post : AHeap} {l : List Int32} : (put b pre s A post).set (b + 4) (.array .int, l.map Value.int) = put b pre s (ou A 3 l) post := pad_set _ _ _ 4 _
theorem put_a4 {b : Nat} {pre : AHeap} {s : Nat → Int32} {A : Nat → List Int32} {post : AHeap} : (put b pre s A post)[b + 5]? = some (.array .int, (A 4).map Value.int) := pad_get _ _ _ 5
theorem put_w4 {b : Nat} {pre : AHeap} {s : Nat → Int32} {A : Nat → List Int32} {post : AHeap} {l : List Int32} : (put b pre s A post).set (b + 5) (.array .int, l.map Value.int) = put b pre s (ou A 4 l) post := pad_set _ _ _ 5 _
theorem put_a5 {b : Nat} {pre : AHeap} {s : Nat → Int32} {A : Nat → List Int32} {post : AHeap} : (put b pre s A post)[b + 6]? = some (.array .int, (A 5).map Value.int) := pad_get _ _ _ 6
theorem put_w5 {b : Nat} {pre : AHeap} {s : Nat → Int32} {A : Nat → List Int32} {post : AHeap} {l : List Int32} : (put b pre s A post).set (b + 6) (.array .int, l.map Value.int) = put b pre s (ou A 5 l) post := pad_set _ _ _ 6 _
theorem put_a6 {b : Nat} {pre : AHeap} {s : Nat → Int32} {A : Nat → List Int32} {post : AHeap} : (put b pre s A post)[b + 7]? = some (.array .int, (A 6).map Value.int) := pad_get _ _ _ 7
theorem put_w6 {b : Nat} {pre : AHeap} {s : Nat → Int32} {A : Nat → List Int32} {post : AHeap} {l : List Int32} : (put b pre s A post).set (b + 7) (.array .int, l.map Value.int) = put b pre s (ou A 6 l) post := pad_set _ _ _ 7 _
theorem put_a7 {b : Nat} {pre : AHeap} {s : Nat → Int32} {A : Nat → List Int32} {post : AHeap} : (put b pre s A post)[b + 8]? = some (.array .boolean, (A 7).map Value.int) := pad_get _ _ _ 8
theorem put_w7 {b : Nat} {pre : AHeap} {s : Nat → Int32} {A : Nat → List Int32} {post : AHeap} {l : List Int32} : (put b pre s A post).set (b + 8) (.array .boolean, l.map Value.int) = put b pre s (ou A 7 l) post := pad_set _ _ _ 8 _
theorem put_a8 {b : Nat} {pre : AHeap} {s : Nat → Int32} {A : Nat → List Int32} {post : AHeap} : (put b pre s A post)[b + 9]? = some (.array .int, (A 8).map Value.int) := pad_get _ _ _ 9
theorem put_w8 {b : Nat} {pre : AHeap} {s : Nat → Int32} {A : Nat → List Int32} {post : AHeap} {l : List Int32} : (put b pre s A post).set (b + 9) (.array .int, l.map Value.int) = put b pre s (ou A 8 l) post := pad_set _ _ _ 9 _
theorem put_a9 {b : Nat} {pre : AHeap} {s : Nat → Int32} {A : Nat → List Int32} {post : AHeap} : (put b pre s A post)[b + 10]? = some (.array .int, (A 9).map Value.int) := pad_get _ _ _ 10
theorem put_w9 {b : Nat} {pre : AHeap} {s : Nat → Int32} {A : Nat → List Int32} {post : AHeap} {l : List Int32} : (put b pre s A post).set (b + 10) (.array .int, l.map Value.int) = put b pre s (ou A 9 l) post := pad_set _ _ _ 10 _
theorem put_a10 {b : Nat} {pre : AHeap} {s : Nat → Int32} {A : Nat → List Int32} {post : AHeap} : (put b pre s A post)[b + 11]? = some (.array .int, (A 10).map Value.int) := pad_get _ _ _ 11
theorem put_w10 {b : Nat} {pre : AHeap} {s : Nat → Int32} {A : Nat → List Int32} {post : AHeap} {l : List Int32} : (put b pre s A post).set (b + 11) (.array .int, l.map Value.int) = put b pre s (ou A 10 l) post := pad_set _ _ _ 11 _
theorem put_a11 {b : Nat} {pre : AHeap} {s : Nat → Int32} {A : Nat → List Int32} {post : AHeap} : (put b pre s A post)[b + 12]? = some (.array .int, (A 11).map Value.int) := pad_get _ _ _ 12
theorem put_w11 {b : Nat} {pre : AHeap} {s : Nat → Int32} {A : Nat → List Int32} {post : AHeap} {l : List Int32} : (put b pre s A post).set (b + 12) (.array .int, l.map Value.int) = put b pre s (ou A 11 l) post := pad_set _ _ _ 12 _
theorem put_s0 {b : Nat} {pre : AHeap} {s : Nat → Int32} {A : Nat → List Int32} {post : AHeap} {v : Int32} : (put b pre s A post).set b (.object "StreamSigScanner", (objv b s).set 12 (.int v)) = put b pre (ou s 0 v) A post := pad_set0 _ _ _ _
theorem put_s1 {b : Nat} {pre : AHeap} {s : Nat → Int32} {A : Nat → List Int32} {post : AHeap} {v : Int32} : (put b pre s A post).set b (.object "StreamSigScanner", (objv b s).set 13 (.int v)) = put b pre (ou s 1 v) A post := pad_set0 _ _ _ _
theorem put_s2 {b : Nat} {pre : AHeap} {s : Nat → Int32} {A : Nat → List Int32} {post : AHeap} {v : Int32} : (put b pre s A post).set b (.object "StreamSigScanner", (objv b s).set 14 (.int v)) = put b pre (ou s 2 v) A post := pad_set0 _ _ _ _
theorem put_s3 {b : Nat} {pre : AHeap} {s : Nat → Int32} {A : Nat → List Int32} {post : AHeap} {v : Int32} : (put b pre s A post).set b (.object "StreamSigScanner", (objv b s).set 15 (.int v)) = put b pre (ou s 3 v) A post := pad_set0 _ _ _ _
theorem put_s4 {b : Nat} {pre : AHeap} {s : Nat → Int32} {A : Nat → List Int32} {post : AHeap} {v : Int32} : (put b pre s A post).set b (.object "StreamSigScanner", (objv b s).set 16 (.int v)) = put b pre (ou s 4 v) A post := pad_set0 _ _ _ _
theorem put_s5 {b : Nat} {pre : AHeap} {s : Nat → Int32} {A : Nat → List Int32} {post : AHeap} {v : Int32} : (put b pre s A post).set b (.object "StreamSigScanner", (objv b s).set 17 (.int v)) = put b pre (ou s 5 v) A post := pad_set0 _ _ _ _
theorem put_s6 {b : Nat} {pre : AHeap} {s : Nat → Int32} {A : Nat → List Int32} {post : AHeap} {v : Int32} : (put b pre s A post).set b (.object "StreamSigScanner", (objv b s).set 18 (.int v)) = put b pre (ou s 6 v) A post := pad_set0 _ _ _ _
theorem put_s7 {b : Nat} {pre : AHeap} {s : Nat → Int32} {A : Nat → List Int32} {post : AHeap} {v : Int32} : (put b pre s A post).set b (.object "StreamSigScanner", (objv b s).set 19 (.int v)) = put b pre (ou s 7 v) A post := pad_set0 _ _ _ _
theorem put_s8 {b : Nat} {pre : AHeap} {s : Nat → Int32} {A : Nat → List Int32} {post : AHeap} {v : Int32} : (put b pre s A post).set b (.object "StreamSigScanner", (objv b s).set 20 (.int v)) = put b pre (ou s 8 v) A post := pad_set0 _ _ _ _
theorem put_s9 {b : Nat} {pre : AHeap} {s : Nat → Int32} {A : Nat → List Int32} {post : AHeap} {v : Int32} : (put b pre s A post).set b (.object "StreamSigScanner", (objv b s).set 21 (.int v)) = put b pre (ou s 9 v) A post := pad_set0 _ _ _ _
theorem put_s10 {b : Nat} {pre : AHeap} {s : Nat → Int32} {A : Nat → List Int32} {post : AHeap} {v : Int32} : (put b pre s A post).set b (.object "StreamSigScanner", (objv b s).set 22 (.int v)) = put b pre (ou s 10 v) A post := pad_set0 _ _ _ _
theorem put_s11 {b : Nat} {pre : AHeap} {s : Nat → Int32} {A : Nat → List Int32} {post : AHeap} {v : Int32} : (put b pre s A post).set b (.object "StreamSigScanner", (objv b s).set 23 (.int v)) = put b pre (ou s 11 v) A post := pad_set0 _ _ _ _
theorem put_s12 {b : Nat} {pre : AHeap} {s : Nat → Int32} {A : Nat → List Int32} {post : AHeap} {v : Int32} : (put b pre s A post).set b (.object "StreamSigScanner", (objv b s).set 24 (.int v)) = put b pre (ou s 12 v) A post := pad_set0 _ _ _ _
theorem put_s13 {b : Nat} {pre : AHeap} {s : Nat → Int32} {A : Nat → List Int32} {post : AHeap} {v : Int32} : (put b pre s A post).set b (.object "StreamSigScanner", (objv b s).set 25 (.int v)) = put b pre (ou s 13 v) A post := pad_set0 _ _ _ _
theorem put_s14 {b : Nat} {pre : AHeap} {s : Nat → Int32} {A : Nat → List Int32} {post : AHeap} {v : Int32} : (put b pre s A post).set b (.object "StreamSigScanner", (objv b s).set 26 (.int v)) = put b pre (ou s 14 v) A post := pad_set0 _ _ _ _
theorem put_s15 {b : Nat} {pre : AHeap} {s : Nat → Int32} {A : Nat → List Int32} {post : AHeap} {v : Int32} : (put b pre s A post).set b (.object "StreamSigScanner", (objv b s).set 27 (.int v)) = put b pre (ou s 15 v) A post := pad_set0 _ _ _ _
theorem put_s16 {b : Nat} {pre : AHeap} {s : Nat → Int32} {A : Nat → List Int32} {post : AHeap} {v : Int32} : (put b pre s A post).set b (.object "StreamSigScanner", (objv b s).set 28 (.int v)) = put b pre (ou s 16 v) A post := pad_set0 _ _ _ _
theorem put_len {b : Nat} {pre : AHeap} {s : Nat → Int32} {A : Nat → List Int32} {post : AHeap} : (put b pre s A post).length = b + 13 + post.length := by rw [put, List.length_append, pad_len]; simp only [List.length_cons]; omega
theorem inst0 : rInst tables_1 "StreamSigScanner" = some 29 := by decide +kernel
theorem put_tot {b : Nat} {pre : AHeap} {s : Nat → Int32} {A : Nat → List Int32} {post : AHeap} : tot tables_1 (put b pre s A post) = tot tables_1 (pad b pre) + (29 + ((A 0).length + ((A 1).length + ((A 2).length + ((A 3).length + ((A 4).length + ((A 5).length + ((A 6).length + ((A 7).length + ((A 8).length + ((A 9).length + ((A 10).length + ((A 11).length + tot tables_1 post))))))))))))) := by rw [put, tot_append]; simp only [tot_cons, cost, List.length_map, inst0, Option.getD_some]
def D0 : List Value := [.null, .null, .null, .null, .null, .null, .null, .null, .null, .null, .null, .null, .int 0, .int 0, .int 0, .int 0, .int 0, .int 0, .int 0, .int 0, .int 0, .int 0, .int 0, .int 0, .int 0, .int 0, .int 0, .int 0, .int 0]
theorem lay0 : (olay tables_1 "StreamSigScanner").map dflt = D0 := by decide +kernel
abbrev y0 : MethodName := ⟨"StreamSigScanner", "<init>", "(I)V"⟩
abbrev kb0 : ByteArray := prog_1_method_1_code
def M0 (pc : Nat) (ls : List Slot) (st : List Value) (H : AHeap) (Q : Option Value → AHeap → Prop) : Prop := W tables_1 dn 0 y0 prog_1_method_1_code none pc ls st H Q
abbrev y1 : MethodName := ⟨"StreamSigScanner", "addSigByte", "(I)I"⟩
abbrev kb1 : ByteArray := prog_1_method_2_code
def M1 (pc : Nat) (ls : List Slot) (st : List Value) (H : AHeap) (Q : Option Value → AHeap → Prop) : Prop := W tables_1 dn 0 y1 prog_1_method_2_code (some .int) pc ls st H Q
abbrev y2 : MethodName := ⟨"StreamSigScanner", "isByte", "(I)Z"⟩
abbrev kb2 : ByteArray := prog_1_method_22_code
def M2 (pc : Nat) (ls : List Slot) (st : List Value) (H : AHeap) (Q : Option Value → AHeap → Prop) : Prop := W tables_1 dn 0 y2 prog_1_method_22_code (some .boolean) pc ls st H Q
abbrev y3 : MethodName := ⟨"StreamSigScanner", "endSig", "()I"⟩
abbrev kb3 : ByteArray := prog_1_method_3_code
def M3 (pc : Nat) (ls : List Slot) (st : List Value) (H : AHeap) (Q : Option Value → AHeap → Prop) : Prop := W tables_1 dn 0 y3 prog_1_method_3_code (some .int) pc ls st H Q
abbrev y4 : MethodName := ⟨"StreamSigScanner", "compile", "()I"⟩
abbrev kb4 : ByteArray := prog_1_method_4_code
def M4 (pc : Nat) (ls : List Slot) (st : List Value) (H : AHeap) (Q : Option Value → AHeap → Prop) : Prop := W tables_1 dn 0 y4 prog_1_method_4_code (some .int) pc ls st H Q
abbrev y5 : MethodName := ⟨"StreamSigScanner", "buildTrie", "()V"⟩
abbrev kb5 : ByteArray := prog_1_method_5_code
def M5 (pc : Nat) (ls : List Slot) (st : List Value) (H : AHeap) (Q : Option Value → AHeap → Prop) : Prop := W tables_1 dn 0 y5 prog_1_method_5_code none pc ls st H Q
abbrev y6 : MethodName := ⟨"StreamSigScanner", "clearAutomaton", "()V"⟩
abbrev kb6 : ByteArray := prog_1_method_6_code
def M6 (pc : Nat) (ls : List Slot) (st : List Value) (H : AHeap) (Q : Option Value → AHeap → Prop) : Prop := W tables_1 dn 0 y6 prog_1_method_6_code none pc ls st H Q
abbrev y7 : MethodName := ⟨"StreamSigScanner", "insertSig", "(I)V"⟩
abbrev kb7 : ByteArray := prog_1_method_7_code
def M7 (pc : Nat) (ls : List Slot) (st : List Value) (H : AHeap) (Q : Option Value → AHeap → Prop) : Prop := W tables_1 dn 0 y7 prog_1_method_7_code none pc ls st H Q
abbrev y8 : MethodName := ⟨"StreamSigScanner", "buildAutomaton", "()V"⟩
abbrev kb8 : ByteArray := prog_1_method_8_code
def M8 (pc : Nat) (ls : List Slot) (st : List Value) (H : AHeap) (Q : Option Value → AHeap → Prop) : Prop := W tables_1 dn 0 y8 prog_1_method_8_code none pc ls st H Q
abbrev y9 : MethodName := ⟨"StreamSigScanner", "openSegment", "(I)I"⟩
abbrev kb9 : ByteArray := prog_1_method_9_code
def M9 (pc : Nat) (ls : List Slot) (st : List Value) (H : AHeap) (Q : Option Value → AHeap → Prop) : Prop := W tables_1 dn 0 y9 prog_1_method_9_code (some .int) pc ls st H Q
abbrev y10 : MethodName := ⟨"StreamSigScanner", "isOffset", "(I)Z"⟩
abbrev kb10 : ByteArray := prog_1_method_23_code
def M10 (pc : Nat) (ls : List Slot) (st : List Value) (H : AHeap) (Q : Option Value → AHeap → Prop) : Prop := W tables_1 dn 0 y10 prog_1_method_23_code (some .boolean) pc ls st H Q
abbrev y11 : MethodName := ⟨"StreamSigScanner", "segByte", "(I)I"⟩
abbrev kb11 : ByteArray := prog_1_method_10_code
def M11 (pc : Nat) (ls : List Slot) (st : List Value) (H : AHeap) (Q : Option Value → AHeap → Prop) : Prop := W tables_1 dn 0 y11 prog_1_method_10_code (some .int) pc ls st H Q
abbrev y12 : MethodName := ⟨"StreamSigScanner", "closeSegment", "()I"⟩
abbrev kb12 : ByteArray := prog_1_method_11_code
def M12 (pc : Nat) (ls : List Slot) (st : List Value) (H : AHeap) (Q : Option Value → AHeap → Prop) : Prop := W tables_1 dn 0 y12 prog_1_method_11_code (some .int) pc ls st H Q
abbrev y13 : MethodName := ⟨"StreamSigScanner", "absorbByte", "(III)V"⟩
abbrev kb13 : ByteArray := prog_1_method_12_code
def M13 (pc : Nat) (ls : List Slot) (st : List Value) (H : AHeap) (Q : Option Value → AHeap → Prop) : Prop := W tables_1 dn 0 y13 prog_1_method_12_code none pc ls st H Q
abbrev y14 : MethodName := ⟨"StreamSigScanner", "advanceDelivered", "()V"⟩
abbrev kb14 : ByteArray := prog_1_method_13_code
def M14 (pc : Nat) (ls : List Slot) (st : List Value) (H : AHeap) (Q : Option Value → AHeap → Prop) : Prop := W tables_1 dn 0 y14 prog_1_method_13_code none pc ls st H Q
abbrev y15 : MethodName := ⟨"StreamSigScanner", "stat", "(I)I"⟩
abbrev kb15 : ByteArray := prog_1_method_16_code
def M15 (pc : Nat) (ls : List Slot) (st : List Value) (H : AHeap) (Q : Option Value → AHeap → Prop) : Prop := W tables_1 dn 0 y15 prog_1_method_16_code (some .int) pc ls st H Q
abbrev y16 : MethodName := ⟨"StreamSigScanner", "feed", "(II)V"⟩
abbrev kb16 : ByteArray := prog_1_method_14_code
def M16 (pc : Nat) (ls : List Slot) (st : List Value) (H : AHeap) (Q : Option Value → AHeap → Prop) : Prop := W tables_1 dn 0 y16 prog_1_method_14_code none pc ls st H Q
abbrev y17 : MethodName := ⟨"StreamSigScanner", "recordMatch", "(II)V"⟩
abbrev kb17 : ByteArray := prog_1_method_15_code
def M17 (pc : Nat) (ls : List Slot) (st : List Value) (H : AHeap) (Q : Option Value → AHeap → Prop) : Prop := W tables_1 dn 0 y17 prog_1_method_15_code none pc ls st H Q
abbrev y18 : MethodName := ⟨"StreamSigScanner", "matchSig", "(I)I"⟩
abbrev kb18 : ByteArray := prog_1_method_20_code
def M18 (pc : Nat) (ls : List Slot) (st : List Value) (H : AHeap) (Q : Option Value → AHeap → Prop) : Prop := W tables_1 dn 0 y18 prog_1_method_20_code (some .int) pc ls st H Q
abbrev y19 : MethodName := ⟨"StreamSigScanner", "validRecord", "(I)Z"⟩
abbrev kb19 : ByteArray := prog_1_method_25_code
def M19 (pc : Nat) (ls : List Slot) (st : List Value) (H : AHeap) (Q : Option Value → AHeap → Prop) : Prop := W tables_1 dn 0 y19 prog_1_method_25_code (some .boolean) pc ls st H Q
abbrev y20 : MethodName := ⟨"StreamSigScanner", "matchEnd", "(I)I"⟩
abbrev kb20 : ByteArray := prog_1_method_21_code
def M20 (pc : Nat) (ls : List Slot) (st : List Value) (H : AHeap) (Q : Option Value → AHeap → Prop) : Prop := W tables_1 dn 0 y20 prog_1_method_21_code (some .int) pc ls st H Q
abbrev y21 : MethodName := ⟨"StreamSigScannerL3", "at", "(IIIII)I"⟩
abbrev kb21 : ByteArray := method_2_code
def M21 (pc : Nat) (ls : List Slot) (st : List Value) (H : AHeap) (Q : Option Value → AHeap → Prop) : Prop := W tables_1 dn 0 y21 method_2_code (some .int) pc ls st H Q
abbrev y22 : MethodName := ⟨"StreamSigScannerL3", "law", "(IIIIII)Z"⟩
abbrev kb22 : ByteArray := code
def M22 (pc : Nat) (ls : List Slot) (st : List Value) (H : AHeap) (Q : Option Value → AHeap → Prop) : Prop := W tables_1 dn 0 y22 code (some .boolean) pc ls st H Q
theorem dn_0 : dnOf dn y0 = some (1, 12) := by decide +kernel
theorem rc_0 : rCode tables_1 y0 = some (prog_1_method_1_code, 3, none) := rCode_of (i := 5) rfl (by decide +kernel)
theorem dn_1 : dnOf dn y1 = some (1, 13) := by decide +kernel
theorem rc_1 : rCode tables_1 y1 = some (prog_1_method_2_code, 3, some .int) := rCode_of (i := 73) rfl (by decide +kernel)
theorem dn_2 : dnOf dn y2 = some (0, 0) := by decide +kernel
theorem rc_2 : rCode tables_1 y2 = some (prog_1_method_22_code, 2, some .boolean) := rCode_of (i := 77) rfl (by decide +kernel)
theorem dn_3 : dnOf dn y3 = some (0, 0) := by decide +kernel
theorem rc_3 : rCode tables_1 y3 = some (prog_1_method_3_code, 2, some .int) := rCode_of (i := 82) rfl (by decide +kernel)
theorem dn_4 : dnOf dn y4 = some (2, 32) := by decide +kernel
theorem rc_4 : rCode tables_1 y4 = some (prog_1_method_4_code, 1, some .int) := rCode_of (i := 87) rfl (by decide +kernel)
theorem dn_5 : dnOf dn y5 = some (1, 19) := by decide +kernel
theorem rc_5 : rCode tables_1 y5 = some (prog_1_method_5_code, 2, none) := rCode_of (i := 91) rfl (by decide +kernel)
theorem dn_6 : dnOf dn y6 = some (0, 0) := by decide +kernel
theorem rc_6 : rCode tables_1 y6 = some (prog_1_method_6_code, 2, none) := rCode_of (i := 95) rfl (by decide +kernel)
theorem dn_7 : dnOf dn y7 = some (0, 0) := by decide +kernel
theorem rc_7 : rCode tables_1 y7 = some (prog_1_method_7_code, 8, none) := rCode_of (i := 99) rfl (by decide +kernel)
theorem dn_8 : dnOf dn y8 = some (0, 0) := by decide +kernel
theorem rc_8 : rCode tables_1 y8 = some (prog_1_method_8_code, 9, none) := rCode_of (i := 103) rfl (by decide +kernel)
theorem dn_9 : dnOf dn y9 = some (1, 13) := by decide +kernel
theorem rc_9 : rCode tables_1 y9 = some (prog_1_method_9_code, 2, some .int) := rCode_of (i := 108) rfl (by decide +kernel)
theorem dn_10 : dnOf dn y10 = some (0, 0) := by decide +kernel
theorem rc_10 : rCode tables_1 y10 = some (prog_1_method_23_code, 2, some .boolean) := rCode_of (i := 112) rfl (by decide +kernel)
theorem dn_11 : dnOf dn y11 = some (1, 13) := by decide +kernel
theorem rc_11 : rCode tables_1 y11 = some (prog_1_method_10_code, 2, some .int) := rCode_of (i := 117) rfl (by decide +kernel)
theorem dn_12 : dnOf dn y12 = some (3, 47) := by decide +kernel
theorem rc_12 : rCode tables_1 y12 = some (prog_1_method_11_code, 3, some .int) := rCode_of (i := 122) rfl (by decide +kernel)
theorem dn_13 : dnOf dn y13 = some (1, 13) := by decide +kernel
theorem rc_13 : rCode tables_1 y13 = some (prog_1_method_12_code, 4, none) := rCode_of (i := 126) rfl (by decide +kernel)
theorem dn_14 : dnOf dn y14 = some (2, 32) := by decide +kernel
theorem rc_14 : rCode tables_1 y14 = some (prog_1_method_13_code, 4, none) := rCode_of (i := 130) rfl (by decide +kernel)
theorem dn_15 : dnOf dn y15 = some (0, 0) := by decide +kernel
theorem rc_15 : rCode tables_1 y15 = some (prog_1_method_16_code, 2, some .int) := rCode_of (i := 135) rfl (by decide +kernel)
theorem dn_16 : dnOf dn y16 = some (1, 14) := by decide +kernel
theorem rc_16 : rCode tables_1 y16 = some (prog_1_method_14_code, 7, none) := rCode_of (i := 139) rfl (by decide +kernel)
theorem dn_17 : dnOf dn y17 = some (0, 0) := by decide +kernel
theorem rc_17 : rCode tables_1 y17 = some (prog_1_method_15_code, 3, none) := rCode_of (i := 143) rfl (by decide +kernel)
theorem dn_18 : dnOf dn y18 = some (1, 14) := by decide +kernel
theorem rc_18 : rCode tables_1 y18 = some (prog_1_method_20_code, 2, some .int) := rCode_of (i := 152) rfl (by decide +kernel)
theorem dn_19 : dnOf dn y19 = some (0, 0) := by decide +kernel
theorem rc_19 : rCode tables_1 y19 = some (prog_1_method_25_code, 3, some .boolean) := rCode_of (i := 156) rfl (by decide +kernel)
theorem dn_20 : dnOf dn y20 = some (1, 14) := by decide +kernel
theorem rc_20 : rCode tables_1 y20 = some (prog_1_method_21_code, 2, some .int) := rCode_of (i := 161) rfl (by decide +kernel)
theorem dn_21 : dnOf dn y21 = some (0, 0) := by decide +kernel
theorem rc_21 : rCode tables_1 y21 = some (method_2_code, 5, some .int) := rCode_of (i := 147) rfl (by decide +kernel)
theorem dn_22 : dnOf dn y22 = some (4, 61) := by decide +kernel
theorem gf_7 : gfR tables_1 "StreamSigScanner" 7 = some ("StreamSigScanner", 0) := by decide +kernel
theorem gf_13 : gfR tables_1 "StreamSigScanner" 13 = some ("StreamSigScanner", 1) := by decide +kernel
theorem gf_16 : gfR tables_1 "StreamSigScanner" 16 = some ("StreamSigScanner", 2) := by decide +kernel
theorem gf_19 : gfR tables_1 "StreamSigScanner" 19 = some ("StreamSigScanner", 3) := by decide +kernel
theorem gf_22 : gfR tables_1 "StreamSigScanner" 22 = some ("StreamSigScanner", 4) := by decide +kernel
theorem gf_25 : gfR tables_1 "StreamSigScanner" 25 = some ("StreamSigScanner", 5) := by decide +kernel
theorem gf_28 : gfR tables_1 "StreamSigScanner" 28 = some ("StreamSigScanner", 6) := by decide +kernel
theorem gf_31 : gfR tables_1 "StreamSigScanner" 31 = some ("StreamSigScanner", 7) := by decide +kernel
theorem gf_35 : gfR tables_1 "StreamSigScanner" 35 = some ("StreamSigScanner", 8) := by decide +kernel
theorem gf_38 : gfR tables_1 "StreamSigScanner" 38 = some ("StreamSigScanner", 9) := by decide +kernel
theorem gf_41 : gfR tables_1 "StreamSigScanner" 41 = some ("StreamSigScanner", 10) := by decide +kernel
theorem gf_44 : gfR tables_1 "StreamSigScanner" 44 = some ("StreamSigScanner", 11) := by decide +kernel
theorem gf_47 : gfR tables_1 "StreamSigScanner" 47 = some ("StreamSigScanner", 12) := by decide +kernel
theorem gf_51 : gfR tables_1 "StreamSigScanner" 51 = some ("StreamSigScanner", 13) := by decide +kernel
theorem gf_55 : gfR tables_1 "StreamSigScanner" 55 = some ("StreamSigScanner", 14) := by decide +kernel
theorem gf_58 : gfR tables_1 "StreamSigScanner" 58 = some ("StreamSigScanner", 15) := by decide +kernel
theorem gf_61 : gfR tables_1 "StreamSigScanner" 61 = some ("StreamSigScanner", 16) := by decide +kernel
theorem gf_64 : gfR tables_1 "StreamSigScanner" 64 = some ("StreamSigScanner", 17) := by decide +kernel
theorem gf_67 : gfR tables_1 "StreamSigScanner" 67 = some ("StreamSigScanner", 18) := by decide +kernel
theorem gf_70 : gfR tables_1 "StreamSigScanner" 70 = some ("StreamSigScanner", 19) := by decide +kernel
theorem gf_73 : gfR tables_1 "StreamSigScanner" 73 = some ("StreamSigScanner", 20) := by decide +kernel
theorem gf_76 : gfR tables_1 "StreamSigScanner" 76 = some ("StreamSigScanner", 21) := by decide +kernel
theorem gf_79 : gfR tables_1 "StreamSigScanner" 79 = some ("StreamSigScanner", 22) := by decide +kernel
theorem gf_82 : gfR tables_1 "StreamSigScanner" 82 = some ("StreamSigScanner", 23) := by decide +kernel
theorem gf_85 : gfR tables_1 "StreamSigScanner" 85 = some ("StreamSigScanner", 24) := by decide +kernel
theorem gf_88 : gfR tables_1 "StreamSigScanner" 88 = some ("StreamSigScanner", 25) := by decide +kernel
theorem gf_91 : gfR tables_1 "StreamSigScanner" 91 = some ("StreamSigScanner", 26) := by decide +kernel
theorem gf_94 : gfR tables_1 "StreamSigScanner" 94 = some ("StreamSigScanner", 27) := by decide +kernel
theorem gf_97 : gfR tables_1 "StreamSigScanner" 97 = some ("StreamSigScanner", 28) := by decide +kernel
section Rules
variable {b r q : Nat} {pre : AHeap} {s : Nat → Int32} {A : Nat → List Int32} {post : AHeap} {ls : List Slot} {st : List Value} {H R : AHeap} {Q : Option Value → AHeap → Prop} {x y v z j : Int32} {J1 J2 : Int64} {sc : List Int32} {l0 l1 l2 l3 l4 l5 l6 l7 l8 l9 l10 l11 l12 l13 l14 l15 l16 : Slot}
theorem m0_0 : M0 0 [.val (.ref r), l1, l2] st H Q = M0 1 [.val (.ref r), l1, l2] (.ref r :: st) H Q := w_x (show decode kb0 0 = .ok (.aload_n 0, 1) from by decide +kernel) rfl
theorem m0_1 : M0 1 ls [.ref r] H Q = M0 4 ls [] H Q := w_obj (show decode kb0 1 = .ok (.invokespecial 1, 3) from by decide +kernel) (sl := 0) (by decide +kernel) (by decide)
theorem m0_4 : M0 4 [.val (.ref r), l1, l2] st H Q = M0 5 [.val (.ref r), l1, l2] (.ref r :: st) H Q := w_x (show decode kb0 4 = .ok (.aload_n 0, 1) from by decide +kernel) rfl
theorem m0_5 : M0 5 ls st H Q = M0 7 ls (.int 64 :: st) H Q := w_con (show decode kb0 5 = .ok (.bipush 64, 2) from by decide +kernel) rfl (by decide)
theorem m0_12 : M0 12 [.val (.ref r), l1, l2] st H Q = M0 13 [.val (.ref r), l1, l2] (.ref r :: st) H Q := w_x (show decode kb0 12 = .ok (.aload_n 0, 1) from by decide +kernel) rfl
theorem m0_13 : M0 13 ls st H Q = M0 15 ls (.int 16 :: st) H Q := w_con (show decode kb0 13 = .ok (.bipush 16, 2) from by decide +kernel) rfl (by decide)
theorem m0_20 : M0 20 [.val (.ref r), l1, l2] st H Q = M0 21 [.val (.ref r), l1, l2] (.ref r :: st) H Q := w_x (show decode kb0 20 = .ok (.aload_n 0, 1) from by decide +kernel) rfl
theorem m0_21 : M0 21 ls st H Q = M0 23 ls (.int 16 :: st) H Q := w_con (show decode kb0 21 = .ok (.bipush 16, 2) from by decide +kernel) rfl (by decide)
theorem m0_28 : M0 28 [.val (.ref r), l1, l2] st H Q = M0 29 [.val (.ref r), l1, l2] (.ref r :: st) H Q := w_x (show decode kb0 28 = .ok (.aload_n 0, 1) from by decide +kernel) rfl
theorem m0_29 : M0 29 ls st H Q = M0 32 ls (.int 16640 :: st) H Q := w_con (show decode kb0 29 = .ok (.sipush 16640, 3) from by decide +kernel) rfl (by decide)
theorem m0_37 : M0 37 [.val (.ref r), l1, l2] st H Q = M0 38 [.val (.ref r), l1, l2] (.ref r :: st) H Q := w_x (show decode kb0 37 = .ok (.aload_n 0, 1) from by decide +kernel) rfl
theorem m0_38 : M0 38 ls st H Q = M0 40 ls (.int 65 :: st) H Q := w_con (show decode kb0 38 = .ok (.bipush 65, 2) from by decide +kernel) rfl (by decide)
theorem m0_45 : M0 45 [.val (.ref r), l1, l2] st H Q = M0 46 [.val (.ref r), l1, l2] (.ref r :: st) H Q := w_x (show decode kb0 45 = .ok (.aload_n 0, 1) from by decide +kernel) rfl
theorem m0_46 : M0 46 ls st H Q = M0 48 ls (.int 65 :: st) H Q := w_con (show decode kb0 46 = .ok (.bipush 65, 2) from by decide +kernel) rfl (by decide)
theorem m0_53 : M0 53 [.val (.ref r), l1, l2] st H Q = M0 54 [.val (.ref r), l1, l2] (.ref r :: st) H Q := w_x (show decode kb0 53 = .ok (.aload_n 0, 1) from by decide +kernel) rfl
theorem m0_54 : M0 54 ls st H Q = M0 56 ls (.int 65 :: st) H Q := w_con (show decode kb0 54 = .ok (.bipush 65, 2) from by decide +kernel) rfl (by decide)
theorem m0_61 : M0 61 [.val (.ref r), l1, l2] st H Q = M0 62 [.val (.ref r), l1, l2] (.ref r :: st) H Q := w_x (show decode kb0 61 = .ok (.aload_n 0, 1) from by decide +kernel) rfl
theorem m0_62 : M0 62 ls st H Q = M0 65 ls (.int 256 :: st) H Q := w_con (show decode kb0 62 = .ok (.sipush 256, 3) from by decide +kernel) rfl (by decide)
theorem m0_70 : M0 70 [.val (.ref r), l1, l2] st H Q = M0 71 [.val (.ref r), l1, l2] (.ref r :: st) H Q := w_x (show decode kb0 70 = .ok (.aload_n 0, 1) from by decide +kernel) rfl
theorem m0_71 : M0 71 ls st H Q = M0 74 ls (.int 256 :: st) H Q := w_con (show decode kb0 71 = .ok (.sipush 256, 3) from by decide +kernel) rfl (by decide)
theorem m0_79 : M0 79 [.val (.ref r), l1, l2] st H Q = M0 80 [.val (.ref r), l1, l2] (.ref r :: st) H Q := w_x (show decode kb0 79 = .ok (.aload_n 0, 1) from by decide +kernel) rfl
theorem m0_80 : M0 80 ls st H Q = M0 82 ls (.int 16 :: st) H Q := w_con (show decode kb0 80 = .ok (.bipush 16, 2) from by decide +kernel) rfl (by decide)
theorem m0_87 : M0 87 [.val (.ref r), l1, l2] st H Q = M0 88 [.val (.ref r), l1, l2] (.ref r :: st) H Q := w_x (show decode kb0 87 = .ok (.aload_n 0, 1) from by decide +kernel) rfl
theorem m0_88 : M0 88 ls st H Q = M0 90 ls (.int 64 :: st) H Q := w_con (show decode kb0 88 = .ok (.bipush 64, 2) from by decide +kernel) rfl (by decide)
theorem m0_95 : M0 95 [.val (.ref r), l1, l2] st H Q = M0 96 [.val (.ref r), l1, l2] (.ref r :: st) H Q := w_x (show decode kb0 95 = .ok (.aload_n 0, 1) from by decide +kernel) rfl
theorem m0_96 : M0 96 ls st H Q = M0 98 ls (.int 64 :: st) H Q := w_con (show decode kb0 96 = .ok (.bipush 64, 2) from by decide +kernel) rfl (by decide)
theorem m0_103 : M0 103 [l0, .val (.int v), l2] st H Q = M0 104 [l0, .val (.int v), l2] (.int v :: st) H Q := w_x (show decode kb0 103 = .ok (.iload_n 1, 1) from by decide +kernel) rfl
theorem m0_104u : M0 104 [l0, l1, .unset] ((.int v) :: st) H Q = M0 105 [l0, l1, .val (.int v)] st H Q := w_st (i := 2) (p := isI) (show decode kb0 104 = .ok (.istore_n 2, 1) from by decide +kernel) rfl rfl rfl rfl rfl rfl
theorem m0_105 : M0 105 [l0, l1, .val (.int v)] st H Q = M0 106 [l0, l1, .val (.int v)] (.int v :: st) H Q := w_x (show decode kb0 105 = .ok (.iload_n 2, 1) from by decide +kernel) rfl
theorem m0_106 : M0 106 ls st H Q = M0 108 ls (.int 8 :: st) H Q := w_con (show decode kb0 106 = .ok (.bipush 8, 2) from by decide +kernel) rfl (by decide)
theorem m0_108 : M0 108 ls (.int y :: .int x :: st) H Q = if x < y then M0 111 ls st H Q else M0 114 ls st H Q := w_icmpN (show decode kb0 108 = .ok (.if_icmp .ge 6, 3) from by decide +kernel) (i_ge x y) rfl
theorem m0_111 : M0 111 ls st H Q = M0 113 ls (.int 8 :: st) H Q := w_con (show decode kb0 111 = .ok (.bipush 8, 2) from by decide +kernel) rfl (by decide)
theorem m0_113i : M0 113 [l0, l1, .val (.int z)] ((.int v) :: st) H Q = M0 114 [l0, l1, .val (.int v)] st H Q := w_st (i := 2) (p := isI) (show decode kb0 113 = .ok (.istore_n 2, 1) from by decide +kernel) rfl rfl rfl rfl rfl rfl
theorem m0_114 : M0 114 [l0, l1, .val (.int v)] st H Q = M0 115 [l0, l1, .val (.int v)] (.int v :: st) H Q := w_x (show decode kb0 114 = .ok (.iload_n 2, 1) from by decide +kernel) rfl
theorem m0_115 : M0 115 ls st H Q = M0 117 ls (.int 64 :: st) H Q := w_con (show decode kb0 115 = .ok (.bipush 64, 2) from by decide +kernel) rfl (by decide)
theorem m0_117 : M0 117 ls (.int y :: .int x :: st) H Q = if y < x then M0 120 ls st H Q else M0 123 ls st H Q := w_icmpN (show decode kb0 117 = .ok (.if_icmp .le 6, 3) from by decide +kernel) (i_le x y) rfl
theorem m0_120 : M0 120 ls st H Q = M0 122 ls (.int 64 :: st) H Q := w_con (show decode kb0 120 = .ok (.bipush 64, 2) from by decide +kernel) rfl (by decide)
theorem m0_122i : M0 122 [l0, l1, .val (.int z)] ((.int v) :: st) H Q = M0 123 [l0, l1, .val (.int v)] st H Q := w_st (i := 2) (p := isI) (show decode kb0 122 = .ok (.istore_n 2, 1) from by decide +kernel) rfl rfl rfl rfl rfl rfl
theorem m0_123 : M0 123 [.val (.ref r), l1, l2] st H Q = M0 124 [.val (.ref r), l1, l2] (.ref r :: st) H Q := w_x (show decode kb0 123 = .ok (.aload_n 0, 1) from by decide +kernel) rfl
theorem m0_124 : M0 124 [l0, l1, .val (.int v)] st H Q = M0 125 [l0, l1, .val (.int v)] (.int v :: st) H Q := w_x (show decode kb0 124 = .ok (.iload_n 2, 1) from by decide +kernel) rfl
theorem pf0_47 : pfR tables_1 y0.cls y0.name 47 = some ("StreamSigScanner", 12, .int) := by decide +kernel
theorem m0_125 : M0 125 ls (.int v :: .ref b :: st) (put b pre s A post) Q = M0 128 ls st (put b pre (ou s 0 v) A post) Q := w_put (show decode kb0 125 = .ok (.putfield 47, 3) from by decide +kernel) pf0_47 put_o (Nat.zero_le _) (by show 12 < 29; omega) rfl put_s0
theorem m0_128 : M0 128 [.val (.ref r), l1, l2] st H Q = M0 129 [.val (.ref r), l1, l2] (.ref r :: st) H Q := w_x (show decode kb0 128 = .ok (.aload_n 0, 1) from by decide +kernel) rfl
theorem m0_129 : M0 129 ls st H Q = M0 130 ls (.int 0 :: st) H Q := w_con (show decode kb0 129 = .ok (.iconst 0, 1) from by decide +kernel) rfl (by decide)
theorem pf0_51 : pfR tables_1 y0.cls y0.name 51 = some ("StreamSigScanner", 13, .boolean) := by decide +kernel
theorem m0_130 : M0 130 ls (.int v :: .ref b :: st) (put b pre s A post) Q = M0 133 ls st (put b pre (ou s 1 (nar .boolean v)) A post) Q := w_put (show decode kb0 130 = .ok (.putfield 51, 3) from by decide +kernel) pf0_51 put_o (Nat.zero_le _) (by show 13 < 29; omega) rfl put_s1
theorem m0_133 : M0 133 [.val (.ref r), l1, l2] st H Q = M0 134 [.val (.ref r), l1, l2] (.ref r :: st) H Q := w_x (show decode kb0 133 = .ok (.aload_n 0, 1) from by decide +kernel) rfl
theorem m0_134 : M0 134 ls st H Q = M0 135 ls (.int 0 :: st) H Q := w_con (show decode kb0 134 = .ok (.iconst 0, 1) from by decide +kernel) rfl (by decide)
theorem pf0_55 : pfR tables_1 y0.cls y0.name 55 = some ("StreamSigScanner", 14, .int) := by decide +kernel
theorem m0_135 : M0 135 ls (.int v :: .ref b :: st) (put b pre s A post) Q = M0 138 ls st (put b pre (ou s 2 v) A post) Q := w_put (show decode kb0 135 = .ok (.putfield 55, 3) from by decide +kernel) pf0_55 put_o (Nat.zero_le _) (by show 14 < 29; omega) rfl put_s2
theorem m0_138 : M0 138 [.val (.ref r), l1, l2] st H Q = M0 139 [.val (.ref r), l1, l2] (.ref r :: st) H Q := w_x (show decode kb0 138 = .ok (.aload_n 0, 1) from by decide +kernel) rfl
theorem m0_139 : M0 139 ls st H Q = M0 140 ls (.int 0 :: st) H Q := w_con (show decode kb0 139 = .ok (.iconst 0, 1) from by decide +kernel) rfl (by decide)
theorem pf0_58 : pfR tables_1 y0.cls y0.name 58 = some ("StreamSigScanner", 15, .int) := by decide +kernel
theorem m0_140 : M0 140 ls (.int v :: .ref b :: st) (put b pre s A post) Q = M0 143 ls st (put b pre (ou s 3 v) A post) Q := w_put (show decode kb0 140 = .ok (.putfield 58, 3) from by decide +kernel) pf0_58 put_o (Nat.zero_le _) (by show 15 < 29; omega) rfl put_s3
theorem m0_143 : M0 143 [.val (.ref r), l1, l2] st H Q = M0 144 [.val (.ref r), l1, l2] (.ref r :: st) H Q := w_x (show decode kb0 143 = .ok (.aload_n 0, 1) from by decide +kernel) rfl
theorem m0_144 : M0 144 ls st H Q = M0 145 ls (.int 0 :: st) H Q := w_con (show decode kb0 144 = .ok (.iconst 0, 1) from by decide +kernel) rfl (by decide)
theorem pf0_61 : pfR tables_1 y0.cls y0.name 61 = some ("StreamSigScanner", 16, .int) := by decide +kernel
theorem m0_145 : M0 145 ls (.int v :: .ref b :: st) (put b pre s A post) Q = M0 148 ls st (put b pre (ou s 4 v) A post) Q := w_put (show decode kb0 145 = .ok (.putfield 61, 3) from by decide +kernel) pf0_61 put_o (Nat.zero_le _) (by show 16 < 29; omega) rfl put_s4
theorem m0_148 : M0 148 [.val (.ref r), l1, l2] st H Q = M0 149 [.val (.ref r), l1, l2] (.ref r :: st) H Q := w_x (show decode kb0 148 = .ok (.aload_n 0, 1) from by decide +kernel) rfl
theorem m0_149 : M0 149 ls st H Q = M0 150 ls (.int 1 :: st) H Q := w_con (show decode kb0 149 = .ok (.iconst 1, 1) from by decide +kernel) rfl (by decide)
theorem pf0_64 : pfR tables_1 y0.cls y0.name 64 = some ("StreamSigScanner", 17, .int) := by decide +kernel
theorem m0_150 : M0 150 ls (.int v :: .ref b :: st) (put b pre s A post) Q = M0 153 ls st (put b pre (ou s 5 v) A post) Q := w_put (show decode kb0 150 = .ok (.putfield 64, 3) from by decide +kernel) pf0_64 put_o (Nat.zero_le _) (by show 17 < 29; omega) rfl put_s5
theorem m0_153 : M0 153 [.val (.ref r), l1, l2] st H Q = M0 154 [.val (.ref r), l1, l2] (.ref r :: st) H Q := w_x (show decode kb0 153 = .ok (.aload_n 0, 1) from by decide +kernel) rfl
theorem m0_154 : M0 154 ls st H Q = M0 155 ls (.int 0 :: st) H Q := w_con (show decode kb0 154 = .ok (.iconst 0, 1) from by decide +kernel) rfl (by decide)
theorem pf0_67 : pfR tables_1 y0.cls y0.name 67 = some ("StreamSigScanner", 18, .int) := by decide +kernel
theorem m0_155 : M0 155 ls (.int v :: .ref b :: st) (put b pre s A post) Q = M0 158 ls st (put b pre (ou s 6 v) A post) Q := w_put (show decode kb0 155 = .ok (.putfield 67, 3) from by decide +kernel) pf0_67 put_o (Nat.zero_le _) (by show 18 < 29; omega) rfl put_s6
theorem m0_158 : M0 158 [.val (.ref r), l1, l2] st H Q = M0 159 [.val (.ref r), l1, l2] (.ref r :: st) H Q := w_x (show decode kb0 158 = .ok (.aload_n 0, 1) from by decide +kernel) rfl
theorem m0_159 : M0 159 ls st H Q = M0 160 ls (.int 0 :: st) H Q := w_con (show decode kb0 159 = .ok (.iconst 0, 1) from by decide +kernel) rfl (by decide)
theorem pf0_70 : pfR tables_1 y0.cls y0.name 70 = some ("StreamSigScanner", 19, .int) := by decide +kernel
theorem m0_160 : M0 160 ls (.int v :: .ref b :: st) (put b pre s A post) Q = M0 163 ls st (put b pre (ou s 7 v) A post) Q := w_put (show decode kb0 160 = .ok (.putfield 70, 3) from by decide +kernel) pf0_70 put_o (Nat.zero_le _) (by show 19 < 29; omega) rfl put_s7
theorem m0_163 : M0 163 [.val (.ref r), l1, l2] st H Q = M0 164 [.val (.ref r), l1, l2] (.ref r :: st) H Q := w_x (show decode kb0 163 = .ok (.aload_n 0, 1) from by decide +kernel) rfl
theorem m0_164 : M0 164 ls st H Q = M0 165 ls (.int 0 :: st) H Q := w_con (show decode kb0 164 = .ok (.iconst 0, 1) from by decide +kernel) rfl (by decide)
theorem pf0_73 : pfR tables_1 y0.cls y0.name 73 = some ("StreamSigScanner", 20, .int) := by decide +kernel
theorem m0_165 : M0 165 ls (.int v :: .ref b :: st) (put b pre s A post) Q = M0 168 ls st (put b pre (ou s 8 v) A post) Q := w_put (show decode kb0 165 = .ok (.putfield 73, 3) from by decide +kernel) pf0_73 put_o (Nat.zero_le _) (by show 20 < 29; omega) rfl put_s8
theorem m0_168 : M0 168 [.val (.ref r), l1, l2] st H Q = M0 169 [.val (.ref r), l1, l2] (.ref r :: st) H Q := w_x (show decode kb0 168 = .ok (.aload_n 0, 1) from by decide +kernel) rfl
theorem m0_169 : M0 169 ls st H Q = M0 170 ls (.int 0 :: st) H Q := w_con (show decode kb0 169 = .ok (.iconst 0, 1) from by decide +kernel) rfl (by decide)
theorem pf0_76 : pfR tables_1 y0.cls y0.name 76 = some ("StreamSigScanner", 21, .int) := by decide +kernel
theorem m0_170 : M0 170 ls (.int v :: .ref b :: st) (put b pre s A post) Q = M0 173 ls st (put b pre (ou s 9 v) A post) Q := w_put (show decode kb0 170 = .ok (.putfield 76, 3) from by decide +kernel) pf0_76 put_o (Nat.zero_le _) (by show 21 < 29; omega) rfl put_s9
theorem m0_173 : M0 173 [.val (.ref r), l1, l2] st H Q = M0 174 [.val (.ref r), l1, l2] (.ref r :: st) H Q := w_x (show decode kb0 173 = .ok (.aload_n 0, 1) from by decide +kernel) rfl
theorem m0_174 : M0 174 ls st H Q = M0 175 ls (.int 0 :: st) H Q := w_con (show decode kb0 174 = .ok (.iconst 0, 1) from by decide +kernel) rfl (by decide)
theorem pf0_79 : pfR tables_1 y0.cls y0.name 79 = some ("StreamSigScanner", 22, .int) := by decide +kernel
theorem m0_175 : M0 175 ls (.int v :: .ref b :: st) (put b pre s A post) Q = M0 178 ls st (put b pre (ou s 10 v) A post) Q := w_put (show decode kb0 175 = .ok (.putfield 79, 3) from by decide +kernel) pf0_79 put_o (Nat.zero_le _) (by show 22 < 29; omega) rfl put_s10
theorem m0_178 : M0 178 [.val (.ref r), l1, l2] st H Q = M0 179 [.val (.ref r), l1, l2] (.ref r :: st) H Q := w_x (show decode kb0 178 = .ok (.aload_n 0, 1) from by decide +kernel) rfl
theorem m0_179 : M0 179 ls st H Q = M0 180 ls (.int 0 :: st) H Q := w_con (show decode kb0 179 = .ok (.iconst 0, 1) from by decide +kernel) rfl (by decide)
theorem pf0_82 : pfR tables_1 y0.cls y0.name 82 = some ("StreamSigScanner", 23, .int) := by decide +kernel
theorem m0_180 : M0 180 ls (.int v :: .ref b :: st) (put b pre s A post) Q = M0 183 ls st (put b pre (ou s 11 v) A post) Q := w_put (show decode kb0 180 = .ok (.putfield 82, 3) from by decide +kernel) pf0_82 put_o (Nat.zero_le _) (by show 23 < 29; omega) rfl put_s11
theorem m0_183 : M0 183 [.val (.ref r), l1, l2] st H Q = M0 184 [.val (.ref r), l1, l2] (.ref r :: st) H Q := w_x (show decode kb0 183 = .ok (.aload_n 0, 1) from by decide +kernel) rfl
theorem m0_184 : M0 184 ls st H Q = M0 185 ls (.int (-1) :: st) H Q := w_con (show decode kb0 184 = .ok (.iconst (-1), 1) from by decide +kernel) rfl (by decide)
theorem pf0_85 : pfR tables_1 y0.cls y0.name 85 = some ("StreamSigScanner", 24, .int) := by decide +kernel
theorem m0_185 : M0 185 ls (.int v :: .ref b :: st) (put b pre s A post) Q = M0 188 ls st (put b pre (ou s 12 v) A post) Q := w_put (show decode kb0 185 = .ok (.putfield 85, 3) from by decide +kernel) pf0_85 put_o (Nat.zero_le _) (by show 24 < 29; omega) rfl put_s12
theorem m0_188 : M0 188 [.val (.ref r), l1, l2] st H Q = M0 189 [.val (.ref r), l1, l2] (.ref r :: st) H Q := w_x (show decode kb0 188 = .ok (.aload_n 0, 1) from by decide +kernel) rfl
theorem m0_189 : M0 189 ls st H Q = M0 190 ls (.int 0 :: st) H Q := w_con (show decode kb0 189 = .ok (.iconst 0, 1) from by decide +kernel) rfl (by decide)
theorem pf0_88 : pfR tables_1 y0.cls y0.name 88 = some ("StreamSigScanner", 25, .boolean) := by decide +kernel
theorem m0_190 : M0 190 ls (.int v :: .ref b :: st) (put b pre s A post) Q = M0 193 ls st (put b pre (ou s 13 (nar .boolean v)) A post) Q := w_put (show decode kb0 190 = .ok (.putfield 88, 3) from by decide +kernel) pf0_88 put_o (Nat.zero_le _) (by show 25 < 29; omega) rfl put_s13
theorem m0_193 : M0 193 [.val (.ref r), l1, l2] st H Q = M0 194 [.val (.ref r), l1, l2] (.ref r :: st) H Q := w_x (show decode kb0 193 = .ok (.aload_n 0, 1) from by decide +kernel) rfl
theorem m0_194 : M0 194 ls st H Q = M0 195 ls (.int (-1) :: st) H Q := w_con (show decode kb0 194 = .ok (.iconst (-1), 1) from by decide +kernel) rfl (by decide)
theorem pf0_91 : pfR tables_1 y0.cls y0.name 91 = some ("StreamSigScanner", 26, .int) := by decide +kernel
theorem m0_195 : M0 195 ls (.int v :: .ref b :: st) (put b pre s A post) Q = M0 198 ls st (put b pre (ou s 14 v) A post) Q := w_put (show decode kb0 195 = .ok (.putfield 91, 3) from by decide +kernel) pf0_91 put_o (Nat.zero_le _) (by show 26 < 29; omega) rfl put_s14
theorem m0_198 : M0 198 [.val (.ref r), l1, l2] st H Q = M0 199 [.val (.ref r), l1, l2] (.ref r :: st) H Q := w_x (show decode kb0 198 = .ok (.aload_n 0, 1) from by decide +kernel) rfl
theorem m0_199 : M0 199 ls st H Q = M0 200 ls (.int 0 :: st) H Q := w_con (show decode kb0 199 = .ok (.iconst 0, 1) from by decide +kernel) rfl (by decide)
theorem pf0_94 : pfR tables_1 y0.cls y0.name 94 = some ("StreamSigScanner", 27, .int) := by decide +kernel
theorem m0_200 : M0 200 ls (.int v :: .ref b :: st) (put b pre s A post) Q = M0 203 ls st (put b pre (ou s 15 v) A post) Q := w_put (show decode kb0 200 = .ok (.putfield 94, 3) from by decide +kernel) pf0_94 put_o (Nat.zero_le _) (by show 27 < 29; omega) rfl put_s15
theorem m0_203 : M0 203 [.val (.ref r), l1, l2] st H Q = M0 204 [.val (.ref r), l1, l2] (.ref r :: st) H Q := w_x (show decode kb0 203 = .ok (.aload_n 0, 1) from by decide +kernel) rfl
theorem m0_204 : M0 204 ls st H Q = M0 205 ls (.int 0 :: st) H Q := w_con (show decode kb0 204 = .ok (.iconst 0, 1) from by decide +kernel) rfl (by decide)
theorem pf0_97 : pfR tables_1 y0.cls y0.name 97 = some ("StreamSigScanner", 28, .int) := by decide +kernel
theorem m0_205 : M0 205 ls (.int v :: .ref b :: st) (put b pre s A post) Q = M0 208 ls st (put b pre (ou s 16 v) A post) Q := w_put (show decode kb0 205 = .ok (.putfield 97, 3) from by decide +kernel) pf0_97 put_o (Nat.zero_le _) (by show 28 < 29; omega) rfl put_s16
theorem m0_208 : M0 208 ls [] H Q = Q none H := w_vret (show decode kb0 208 = .ok (.return_, 1) from by decide +kernel) rfl
theorem m1_0 : M1 0 [.val (.ref r), l1, l2] st H Q = M1 1 [.val (.ref r), l1, l2] (.ref r :: st) H Q := w_x (show decode kb1 0 = .ok (.aload_n 0, 1) from by decide +kernel) rfl
theorem m1_1 : M1 1 ls (.ref b :: st) (put b pre s A post) Q = M1 4 ls (.int (s 1) :: st) (put b pre s A post) Q := w_get (show decode kb1 1 = .ok (.getfield 51, 3) from by decide +kernel) gf_51 put_o rfl
theorem m1_4 : M1 4 ls (.int x :: st) H Q = if x = 0 then M1 9 ls st H Q else M1 7 ls st H Q := w_if (show decode kb1 4 = .ok (.ifCond .eq 5, 3) from by decide +kernel) (z_eq x) rfl
theorem m1_7 : M1 7 ls st H Q = M1 8 ls (.int (-1) :: st) H Q := w_con (show decode kb1 7 = .ok (.iconst (-1), 1) from by decide +kernel) rfl (by decide)
theorem m1_8 : M1 8 ls (.int z :: st) H Q = Q (some (.int z)) H := w_iret (show decode kb1 8 = .ok (.ireturn, 1) from by decide +kernel) rfl
theorem m1_9 : M1 9 [.val (.ref r), l1, l2] st H Q = M1 10 [.val (.ref r), l1, l2] (.ref r :: st) H Q := w_x (show decode kb1 9 = .ok (.aload_n 0, 1) from by decide +kernel) rfl
theorem m1_10 : M1 10 [l0, .val (.int v), l2] st H Q = M1 11 [l0, .val (.int v), l2] (.int v :: st) H Q := w_x (show decode kb1 10 = .ok (.iload_n 1, 1) from by decide +kernel) rfl
theorem cr1_100 : vR tables_1 dn y1 100 = some (true, y2, prog_1_method_22_code, 2, (some .boolean), 1, 0) := pR_of (cR_of (by decide +kernel) rc_2 dn_2 dn_1 (sig := ⟨[.int], some .boolean⟩) (by decide +kernel) (by decide +kernel) rfl rfl) (by decide +kernel) (by decide +kernel)
theorem m1_11 (a0 : Int32) : M1 11 ls [.int a0, .ref b] (put b pre s A post) Q = M2 0 [.val (.ref b), .val (.int a0)] [] (put b pre s A post) (fun v H1 => M1 14 ls (v.toList ++ []) H1 Q) := w_virt (as := [.int a0]) (rest := []) (a := b) (show decode kb1 11 = .ok (.invokevirtual 100, 3) from by decide +kernel) cr1_100 put_o rfl rfl (Nat.le_of_ble_eq_true rfl) (by show 2 ≤ 2; omega) rfl
theorem m1_14 : M1 14 ls (.int x :: st) H Q = if x = 0 then M1 17 ls st H Q else M1 20 ls st H Q := w_ifN (show decode kb1 14 = .ok (.ifCond .ne 6, 3) from by decide +kernel) (z_ne x) rfl
theorem m1_17 : M1 17 ls st H Q = M1 19 ls (.int (-2) :: st) H Q := w_con (show decode kb1 17 = .ok (.bipush (-2), 2) from by decide +kernel) rfl (by decide)
theorem m1_19 : M1 19 ls (.int z :: st) H Q = Q (some (.int z)) H := w_iret (show decode kb1 19 = .ok (.ireturn, 1) from by decide +kernel) rfl
theorem m1_20 : M1 20 [.val (.ref r), l1, l2] st H Q = M1 21 [.val (.ref r), l1, l2] (.ref r :: st) H Q := w_x (show decode kb1 20 = .ok (.aload_n 0, 1) from by decide +kernel) rfl
theorem m1_21 : M1 21 ls (.ref b :: st) (put b pre s A post) Q = M1 24 ls (.int (s 2) :: st) (put b pre s A post) Q := w_get (show decode kb1 21 = .ok (.getfield 55, 3) from by decide +kernel) gf_55 put_o rfl
theorem m1_24 : M1 24 ls st H Q = M1 26 ls (.int 16 :: st) H Q := w_con (show decode kb1 24 = .ok (.bipush 16, 2) from by decide +kernel) rfl (by decide)
theorem m1_26 : M1 26 ls (.int y :: .int x :: st) H Q = if x < y then M1 32 ls st H Q else M1 29 ls st H Q := w_icmp (show decode kb1 26 = .ok (.if_icmp .lt 6, 3) from by decide +kernel) (i_lt x y) rfl
theorem m1_29 : M1 29 ls st H Q = M1 31 ls (.int (-3) :: st) H Q := w_con (show decode kb1 29 = .ok (.bipush (-3), 2) from by decide +kernel) rfl (by decide)
theorem m1_31 : M1 31 ls (.int z :: st) H Q = Q (some (.int z)) H := w_iret (show decode kb1 31 = .ok (.ireturn, 1) from by decide +kernel) rfl
theorem m1_32 : M1 32 [.val (.ref r), l1, l2] st H Q = M1 33 [.val (.ref r), l1, l2] (.ref r :: st) H Q := w_x (show decode kb1 32 = .ok (.aload_n 0, 1) from by decide +kernel) rfl
theorem m1_33 : M1 33 ls (.ref b :: st) (put b pre s A post) Q = M1 36 ls (.int (s 4) :: st) (put b pre s A post) Q := w_get (show decode kb1 33 = .ok (.getfield 61, 3) from by decide +kernel) gf_61 put_o rfl
theorem m1_36 : M1 36 ls st H Q = M1 38 ls (.int 16 :: st) H Q := w_con (show decode kb1 36 = .ok (.bipush 16, 2) from by decide +kernel) rfl (by decide)
theorem m1_38 : M1 38 ls (.int y :: .int x :: st) H Q = if x < y then M1 44 ls st H Q else M1 41 ls st H Q := w_icmp (show decode kb1 38 = .ok (.if_icmp .lt 6, 3) from by decide +kernel) (i_lt x y) rfl
theorem m1_41 : M1 41 ls st H Q = M1 43 ls (.int (-3) :: st) H Q := w_con (show decode kb1 41 = .ok (.bipush (-3), 2) from by decide +kernel) rfl (by decide)
theorem m1_43 : M1 43 ls (.int z :: st) H Q = Q (some (.int z)) H := w_iret (show decode kb1 43 = .ok (.ireturn, 1) from by decide +kernel) rfl
theorem m1_44 : M1 44 [.val (.ref r), l1, l2] st H Q = M1 45 [.val (.ref r), l1, l2] (.ref r :: st) H Q := w_x (show decode kb1 44 = .ok (.aload_n 0, 1) from by decide +kernel) rfl
theorem m1_45 : M1 45 ls (.ref b :: st) (put b pre s A post) Q = M1 48 ls (.int (s 3) :: st) (put b pre s A post) Q := w_get (show decode kb1 45 = .ok (.getfield 58, 3) from by decide +kernel) gf_58 put_o rfl
theorem m1_48 : M1 48 [.val (.ref r), l1, l2] st H Q = M1 49 [.val (.ref r), l1, l2] (.ref r :: st) H Q := w_x (show decode kb1 48 = .ok (.aload_n 0, 1) from by decide +kernel) rfl
theorem m1_49 : M1 49 ls (.ref b :: st) (put b pre s A post) Q = M1 52 ls (.int (s 4) :: st) (put b pre s A post) Q := w_get (show decode kb1 49 = .ok (.getfield 61, 3) from by decide +kernel) gf_61 put_o rfl
theorem m1_52 : M1 52 ls (.int y :: .int x :: st) H Q = M1 53 ls (.int (x + y) :: st) H Q := w_x (show decode kb1 52 = .ok (.iadd, 1) from by decide +kernel) rfl
theorem m1_53 : M1 53 ls st H Q = M1 55 ls (.int 64 :: st) H Q := w_con (show decode kb1 53 = .ok (.bipush 64, 2) from by decide +kernel) rfl (by decide)
theorem m1_55 : M1 55 ls (.int y :: .int x :: st) H Q = if x < y then M1 61 ls st H Q else M1 58 ls st H Q := w_icmp (show decode kb1 55 = .ok (.if_icmp .lt 6, 3) from by decide +kernel) (i_lt x y) rfl
theorem m1_58 : M1 58 ls st H Q = M1 60 ls (.int (-3) :: st) H Q := w_con (show decode kb1 58 = .ok (.bipush (-3), 2) from by decide +kernel) rfl (by decide)
theorem m1_60 : M1 60 ls (.int z :: st) H Q = Q (some (.int z)) H := w_iret (show decode kb1 60 = .ok (.ireturn, 1) from by decide +kernel) rfl
theorem m1_61 : M1 61 [.val (.ref r), l1, l2] st H Q = M1 62 [.val (.ref r), l1, l2] (.ref r :: st) H Q := w_x (show decode kb1 61 = .ok (.aload_n 0, 1) from by decide +kernel) rfl
theorem m1_62 : M1 62 ls (.ref b :: st) (put b pre s A post) Q = M1 65 ls (.int (s 3) :: st) (put b pre s A post) Q := w_get (show decode kb1 62 = .ok (.getfield 58, 3) from by decide +kernel) gf_58 put_o rfl
theorem m1_65 : M1 65 [.val (.ref r), l1, l2] st H Q = M1 66 [.val (.ref r), l1, l2] (.ref r :: st) H Q := w_x (show decode kb1 65 = .ok (.aload_n 0, 1) from by decide +kernel) rfl
theorem m1_66 : M1 66 ls (.ref b :: st) (put b pre s A post) Q = M1 69 ls (.int (s 4) :: st) (put b pre s A post) Q := w_get (show decode kb1 66 = .ok (.getfield 61, 3) from by decide +kernel) gf_61 put_o rfl
theorem m1_69 : M1 69 ls (.int y :: .int x :: st) H Q = M1 70 ls (.int (x + y) :: st) H Q := w_x (show decode kb1 69 = .ok (.iadd, 1) from by decide +kernel) rfl
theorem m1_70u : M1 70 [l0, l1, .unset] ((.int v) :: st) H Q = M1 71 [l0, l1, .val (.int v)] st H Q := w_st (i := 2) (p := isI) (show decode kb1 70 = .ok (.istore_n 2, 1) from by decide +kernel) rfl rfl rfl rfl rfl rfl
theorem m1_71 : M1 71 [l0, l1, .val (.int v)] st H Q = M1 72 [l0, l1, .val (.int v)] (.int v :: st) H Q := w_x (show decode kb1 71 = .ok (.iload_n 2, 1) from by decide +kernel) rfl
theorem m1_72 : M1 72 ls (.int x :: st) H Q = if x < 0 then M1 81 ls st H Q else M1 75 ls st H Q := w_if (show decode kb1 72 = .ok (.ifCond .lt 9, 3) from by decide +kernel) (z_lt x) rfl
theorem m1_75 : M1 75 [l0, l1, .val (.int v)] st H Q = M1 76 [l0, l1, .val (.int v)] (.int v :: st) H Q := w_x (show decode kb1 75 = .ok (.iload_n 2, 1) from by decide +kernel) rfl
theorem m1_76 : M1 76 ls st H Q = M1 78 ls (.int 64 :: st) H Q := w_con (show decode kb1 76 = .ok (.bipush 64, 2) from by decide +kernel) rfl (by decide)
theorem m1_78 : M1 78 ls (.int y :: .int x :: st) H Q = if x < y then M1 84 ls st H Q else M1 81 ls st H Q := w_icmp (show decode kb1 78 = .ok (.if_icmp .lt 6, 3) from by decide +kernel) (i_lt x y) rfl
theorem m1_81 : M1 81 ls st H Q = M1 83 ls (.int (-3) :: st) H Q := w_con (show decode kb1 81 = .ok (.bipush (-3), 2) from by decide +kernel) rfl (by decide)
theorem m1_83 : M1 83 ls (.int z :: st) H Q = Q (some (.int z)) H := w_iret (show decode kb1 83 = .ok (.ireturn, 1) from by decide +kernel) rfl
theorem m1_84 : M1 84 [.val (.ref r), l1, l2] st H Q = M1 85 [.val (.ref r), l1, l2] (.ref r :: st) H Q := w_x (show decode kb1 84 = .ok (.aload_n 0, 1) from by decide +kernel) rfl
theorem m1_85 : M1 85 ls (.ref b :: st) (put b pre s A post) Q = M1 88 ls (.ref (b + 1) :: st) (put b pre s A post) Q := w_get (show decode kb1 85 = .ok (.getfield 7, 3) from by decide +kernel) gf_7 put_o rfl
theorem m1_88 : M1 88 [l0, l1, .val (.int v)] st H Q = M1 89 [l0, l1, .val (.int v)] (.int v :: st) H Q := w_x (show decode kb1 88 = .ok (.iload_n 2, 1) from by decide +kernel) rfl
theorem m1_89 : M1 89 [l0, .val (.int v), l2] st H Q = M1 90 [l0, .val (.int v), l2] (.int v :: st) H Q := w_x (show decode kb1 89 = .ok (.iload_n 1, 1) from by decide +kernel) rfl
theorem m1_90  : M1 90 ls (.int v :: .int j :: .ref (b + 1) :: st) (put b pre s A post) Q = (inB j (A 0) ∧ M1 91 ls st (put b pre s (ou A 0 (setA (A 0) j v)) post) Q) := w_ist (show decode kb1 90 = .ok (.iastore, 1) from by decide +kernel) rfl put_a0 (Nat.zero_le _) rfl put_w0
theorem m1_91 : M1 91 [.val (.ref r), l1, l2] st H Q = M1 92 [.val (.ref r), l1, l2] (.ref r :: st) H Q := w_x (show decode kb1 91 = .ok (.aload_n 0, 1) from by decide +kernel) rfl
theorem m1_92 : M1 92 ls ((.ref r) :: st) H Q = M1 93 ls ((.ref r) :: (.ref r) :: st) H Q := w_x (show decode kb1 92 = .ok (.dup, 1) from by decide +kernel) rfl
theorem m1_93 : M1 93 ls (.ref b :: st) (put b pre s A post) Q = M1 96 ls (.int (s 4) :: st) (put b pre s A post) Q := w_get (show decode kb1 93 = .ok (.getfield 61, 3) from by decide +kernel) gf_61 put_o rfl
theorem m1_96 : M1 96 ls st H Q = M1 97 ls (.int 1 :: st) H Q := w_con (show decode kb1 96 = .ok (.iconst 1, 1) from by decide +kernel) rfl (by decide)
theorem m1_97 : M1 97 ls (.int y :: .int x :: st) H Q = M1 98 ls (.int (x + y) :: st) H Q := w_x (show decode kb1 97 = .ok (.iadd, 1) from by decide +kernel) rfl
theorem pf1_61 : pfR tables_1 y1.cls y1.name 61 = some ("StreamSigScanner", 16, .int) := by decide +kernel
theorem m1_98 : M1 98 ls (.int v :: .ref b :: st) (put b pre s A post) Q = M1 101 ls st (put b pre (ou s 4 v) A post) Q := w_put (show decode kb1 98 = .ok (.putfield 61, 3) from by decide +kernel) pf1_61 put_o (Nat.zero_le _) (by show 16 < 29; omega) rfl put_s4
theorem m1_101 : M1 101 ls st H Q = M1 102 ls (.int 0 :: st) H Q := w_con (show decode kb1 101 = .ok (.iconst 0, 1) from by decide +kernel) rfl (by decide)
theorem m1_102 : M1 102 ls (.int z :: st) H Q = Q (some (.int z)) H := w_iret (show decode kb1 102 = .ok (.ireturn, 1) from by decide +kernel) rfl
theorem m2_0 : M2 0 [l0, .val (.int v)] st H Q = M2 1 [l0, .val (.int v)] (.int v :: st) H Q := w_x (show decode kb2 0 = .ok (.iload_n 1, 1) from by decide +kernel) rfl
theorem m2_1 : M2 1 ls (.int x :: st) H Q = if x < 0 then M2 15 ls st H Q else M2 4 ls st H Q := w_if (show decode kb2 1 = .ok (.ifCond .lt 14, 3) from by decide +kernel) (z_lt x) rfl
theorem m2_4 : M2 4 [l0, .val (.int v)] st H Q = M2 5 [l0, .val (.int v)] (.int v :: st) H Q := w_x (show decode kb2 4 = .ok (.iload_n 1, 1) from by decide +kernel) rfl
theorem m2_5 : M2 5 ls st H Q = M2 8 ls (.int 255 :: st) H Q := w_con (show decode kb2 5 = .ok (.sipush 255, 3) from by decide +kernel) rfl (by decide)
theorem m2_8 : M2 8 ls (.int y :: .int x :: st) H Q = if y < x then M2 15 ls st H Q else M2 11 ls st H Q := w_icmp (show decode kb2 8 = .ok (.if_icmp .gt 7, 3) from by decide +kernel) (i_gt x y) rfl
theorem m2_11 : M2 11 ls st H Q = M2 12 ls (.int 1 :: st) H Q := w_con (show decode kb2 11 = .ok (.iconst 1, 1) from by decide +kernel) rfl (by decide)
theorem m2_12 : M2 12 ls st H Q = M2 16 ls st H Q := w_x (show decode kb2 12 = .ok (.goto 4, 3) from by decide +kernel) rfl
theorem m2_15 : M2 15 ls st H Q = M2 16 ls (.int 0 :: st) H Q := w_con (show decode kb2 15 = .ok (.iconst 0, 1) from by decide +kernel) rfl (by decide)
theorem m2_16 : M2 16 ls (.int z :: st) H Q = Q (some (.int (nar .boolean z))) H := w_iretN (show decode kb2 16 = .ok (.ireturn, 1) from by decide +kernel) rfl (by simp)
theorem m3_0 : M3 0 [.val (.ref r), l1] st H Q = M3 1 [.val (.ref r), l1] (.ref r :: st) H Q := w_x (show decode kb3 0 = .ok (.aload_n 0, 1) from by decide +kernel) rfl
theorem m3_1 : M3 1 ls (.ref b :: st) (put b pre s A post) Q = M3 4 ls (.int (s 1) :: st) (put b pre s A post) Q := w_get (show decode kb3 1 = .ok (.getfield 51, 3) from by decide +kernel) gf_51 put_o rfl
theorem m3_4 : M3 4 ls (.int x :: st) H Q = if x = 0 then M3 9 ls st H Q else M3 7 ls st H Q := w_if (show decode kb3 4 = .ok (.ifCond .eq 5, 3) from by decide +kernel) (z_eq x) rfl
theorem m3_7 : M3 7 ls st H Q = M3 8 ls (.int (-1) :: st) H Q := w_con (show decode kb3 7 = .ok (.iconst (-1), 1) from by decide +kernel) rfl (by decide)
theorem m3_8 : M3 8 ls (.int z :: st) H Q = Q (some (.int z)) H := w_iret (show decode kb3 8 = .ok (.ireturn, 1) from by decide +kernel) rfl
theorem m3_9 : M3 9 [.val (.ref r), l1] st H Q = M3 10 [.val (.ref r), l1] (.ref r :: st) H Q := w_x (show decode kb3 9 = .ok (.aload_n 0, 1) from by decide +kernel) rfl
theorem m3_10 : M3 10 ls (.ref b :: st) (put b pre s A post) Q = M3 13 ls (.int (s 4) :: st) (put b pre s A post) Q := w_get (show decode kb3 10 = .ok (.getfield 61, 3) from by decide +kernel) gf_61 put_o rfl
theorem m3_13 : M3 13 ls (.int x :: st) H Q = if x = 0 then M3 16 ls st H Q else M3 19 ls st H Q := w_ifN (show decode kb3 13 = .ok (.ifCond .ne 6, 3) from by decide +kernel) (z_ne x) rfl
theorem m3_16 : M3 16 ls st H Q = M3 18 ls (.int (-4) :: st) H Q := w_con (show decode kb3 16 = .ok (.bipush (-4), 2) from by decide +kernel) rfl (by decide)
theorem m3_18 : M3 18 ls (.int z :: st) H Q = Q (some (.int z)) H := w_iret (show decode kb3 18 = .ok (.ireturn, 1) from by decide +kernel) rfl
theorem m3_19 : M3 19 [.val (.ref r), l1] st H Q = M3 20 [.val (.ref r), l1] (.ref r :: st) H Q := w_x (show decode kb3 19 = .ok (.aload_n 0, 1) from by decide +kernel) rfl
theorem m3_20 : M3 20 ls (.ref b :: st) (put b pre s A post) Q = M3 23 ls (.int (s 2) :: st) (put b pre s A post) Q := w_get (show decode kb3 20 = .ok (.getfield 55, 3) from by decide +kernel) gf_55 put_o rfl
theorem m3_23u : M3 23 [l0, .unset] ((.int v) :: st) H Q = M3 24 [l0, .val (.int v)] st H Q := w_st (i := 1) (p := isI) (show decode kb3 23 = .ok (.istore_n 1, 1) from by decide +kernel) rfl rfl rfl rfl rfl rfl
theorem m3_24 : M3 24 [l0, .val (.int v)] st H Q = M3 25 [l0, .val (.int v)] (.int v :: st) H Q := w_x (show decode kb3 24 = .ok (.iload_n 1, 1) from by decide +kernel) rfl
theorem m3_25 : M3 25 ls (.int x :: st) H Q = if x < 0 then M3 34 ls st H Q else M3 28 ls st H Q := w_if (show decode kb3 25 = .ok (.ifCond .lt 9, 3) from by decide +kernel) (z_lt x) rfl
theorem m3_28 : M3 28 [l0, .val (.int v)] st H Q = M3 29 [l0, .val (.int v)] (.int v :: st) H Q := w_x (show decode kb3 28 = .ok (.iload_n 1, 1) from by decide +kernel) rfl
theorem m3_29 : M3 29 ls st H Q = M3 31 ls (.int 16 :: st) H Q := w_con (show decode kb3 29 = .ok (.bipush 16, 2) from by decide +kernel) rfl (by decide)
theorem m3_31 : M3 31 ls (.int y :: .int x :: st) H Q = if x < y then M3 37 ls st H Q else M3 34 ls st H Q := w_icmp (show decode kb3 31 = .ok (.if_icmp .lt 6, 3) from by decide +kernel) (i_lt x y) rfl
theorem m3_34 : M3 34 ls st H Q = M3 36 ls (.int (-3) :: st) H Q := w_con (show decode kb3 34 = .ok (.bipush (-3), 2) from by decide +kernel) rfl (by decide)
theorem m3_36 : M3 36 ls (.int z :: st) H Q = Q (some (.int z)) H := w_iret (show decode kb3 36 = .ok (.ireturn, 1) from by decide +kernel) rfl
theorem m3_37 : M3 37 [.val (.ref r), l1] st H Q = M3 38 [.val (.ref r), l1] (.ref r :: st) H Q := w_x (show decode kb3 37 = .ok (.aload_n 0, 1) from by decide +kernel) rfl
theorem m3_38 : M3 38 ls (.ref b :: st) (put b pre s A post) Q = M3 41 ls (.ref (b + 2) :: st) (put b pre s A post) Q := w_get (show decode kb3 38 = .ok (.getfield 13, 3) from by decide +kernel) gf_13 put_o rfl
theorem m3_41 : M3 41 [l0, .val (.int v)] st H Q = M3 42 [l0, .val (.int v)] (.int v :: st) H Q := w_x (show decode kb3 41 = .ok (.iload_n 1, 1) from by decide +kernel) rfl
theorem m3_42 : M3 42 [.val (.ref r), l1] st H Q = M3 43 [.val (.ref r), l1] (.ref r :: st) H Q := w_x (show decode kb3 42 = .ok (.aload_n 0, 1) from by decide +kernel) rfl
theorem m3_43 : M3 43 ls (.ref b :: st) (put b pre s A post) Q = M3 46 ls (.int (s 3) :: st) (put b pre s A post) Q := w_get (show decode kb3 43 = .ok (.getfield 58, 3) from by decide +kernel) gf_58 put_o rfl
theorem m3_46  : M3 46 ls (.int v :: .int j :: .ref (b + 2) :: st) (put b pre s A post) Q = (inB j (A 1) ∧ M3 47 ls st (put b pre s (ou A 1 (setA (A 1) j v)) post) Q) := w_ist (show decode kb3 46 = .ok (.iastore, 1) from by decide +kernel) rfl put_a1 (Nat.zero_le _) rfl put_w1
theorem m3_47 : M3 47 [.val (.ref r), l1] st H Q = M3 48 [.val (.ref r), l1] (.ref r :: st) H Q := w_x (show decode kb3 47 = .ok (.aload_n 0, 1) from by decide +kernel) rfl
theorem m3_48 : M3 48 ls (.ref b :: st) (put b pre s A post) Q = M3 51 ls (.ref (b + 3) :: st) (put b pre s A post) Q := w_get (show decode kb3 48 = .ok (.getfield 16, 3) from by decide +kernel) gf_16 put_o rfl
theorem m3_51 : M3 51 [l0, .val (.int v)] st H Q = M3 52 [l0, .val (.int v)] (.int v :: st) H Q := w_x (show decode kb3 51 = .ok (.iload_n 1, 1) from by decide +kernel) rfl
theorem m3_52 : M3 52 [.val (.ref r), l1] st H Q = M3 53 [.val (.ref r), l1] (.ref r :: st) H Q := w_x (show decode kb3 52 = .ok (.aload_n 0, 1) from by decide +kernel) rfl
theorem m3_53 : M3 53 ls (.ref b :: st) (put b pre s A post) Q = M3 56 ls (.int (s 4) :: st) (put b pre s A post) Q := w_get (show decode kb3 53 = .ok (.getfield 61, 3) from by decide +kernel) gf_61 put_o rfl
theorem m3_56  : M3 56 ls (.int v :: .int j :: .ref (b + 3) :: st) (put b pre s A post) Q = (inB j (A 2) ∧ M3 57 ls st (put b pre s (ou A 2 (setA (A 2) j v)) post) Q) := w_ist (show decode kb3 56 = .ok (.iastore, 1) from by decide +kernel) rfl put_a2 (Nat.zero_le _) rfl put_w2
theorem m3_57 : M3 57 [.val (.ref r), l1] st H Q = M3 58 [.val (.ref r), l1] (.ref r :: st) H Q := w_x (show decode kb3 57 = .ok (.aload_n 0, 1) from by decide +kernel) rfl
theorem m3_58 : M3 58 ls ((.ref r) :: st) H Q = M3 59 ls ((.ref r) :: (.ref r) :: st) H Q := w_x (show decode kb3 58 = .ok (.dup, 1) from by decide +kernel) rfl
theorem m3_59 : M3 59 ls (.ref b :: st) (put b pre s A post) Q = M3 62 ls (.int (s 3) :: st) (put b pre s A post) Q := w_get (show decode kb3 59 = .ok (.getfield 58, 3) from by decide +kernel) gf_58 put_o rfl
theorem m3_62 : M3 62 [.val (.ref r), l1] st H Q = M3 63 [.val (.ref r), l1] (.ref r :: st) H Q := w_x (show decode kb3 62 = .ok (.aload_n 0, 1) from by decide +kernel) rfl
theorem m3_63 : M3 63 ls (.ref b :: st) (put b pre s A post) Q = M3 66 ls (.int (s 4) :: st) (put b pre s A post) Q := w_get (show decode kb3 63 = .ok (.getfield 61, 3) from by decide +kernel) gf_61 put_o rfl
theorem m3_66 : M3 66 ls (.int y :: .int x :: st) H Q = M3 67 ls (.int (x + y) :: st) H Q := w_x (show decode kb3 66 = .ok (.iadd, 1) from by decide +kernel) rfl
theorem pf3_58 : pfR tables_1 y3.cls y3.name 58 = some ("StreamSigScanner", 15, .int) := by decide +kernel
theorem m3_67 : M3 67 ls (.int v :: .ref b :: st) (put b pre s A post) Q = M3 70 ls st (put b pre (ou s 3 v) A post) Q := w_put (show decode kb3 67 = .ok (.putfield 58, 3) from by decide +kernel) pf3_58 put_o (Nat.zero_le _) (by show 15 < 29; omega) rfl put_s3
theorem m3_70 : M3 70 [.val (.ref r), l1] st H Q = M3 71 [.val (.ref r), l1] (.ref r :: st) H Q := w_x (show decode kb3 70 = .ok (.aload_n 0, 1) from by decide +kernel) rfl
theorem m3_71 : M3 71 ls st H Q = M3 72 ls (.int 0 :: st) H Q := w_con (show decode kb3 71 = .ok (.iconst 0, 1) from by decide +kernel) rfl (by decide)
theorem pf3_61 : pfR tables_1 y3.cls y3.name 61 = some ("StreamSigScanner", 16, .int) := by decide +kernel
theorem m3_72 : M3 72 ls (.int v :: .ref b :: st) (put b pre s A post) Q = M3 75 ls st (put b pre (ou s 4 v) A post) Q := w_put (show decode kb3 72 = .ok (.putfield 61, 3) from by decide +kernel) pf3_61 put_o (Nat.zero_le _) (by show 16 < 29; omega) rfl put_s4
theorem m3_75 : M3 75 [.val (.ref r), l1] st H Q = M3 76 [.val (.ref r), l1] (.ref r :: st) H Q := w_x (show decode kb3 75 = .ok (.aload_n 0, 1) from by decide +kernel) rfl
theorem m3_76 : M3 76 [l0, .val (.int v)] st H Q = M3 77 [l0, .val (.int v)] (.int v :: st) H Q := w_x (show decode kb3 76 = .ok (.iload_n 1, 1) from by decide +kernel) rfl
theorem m3_77 : M3 77 ls st H Q = M3 78 ls (.int 1 :: st) H Q := w_con (show decode kb3 77 = .ok (.iconst 1, 1) from by decide +kernel) rfl (by decide)
theorem m3_78 : M3 78 ls (.int y :: .int x :: st) H Q = M3 79 ls (.int (x + y) :: st) H Q := w_x (show decode kb3 78 = .ok (.iadd, 1) from by decide +kernel) rfl
theorem pf3_55 : pfR tables_1 y3.cls y3.name 55 = some ("StreamSigScanner", 14, .int) := by decide +kernel
theorem m3_79 : M3 79 ls (.int v :: .ref b :: st) (put b pre s A post) Q = M3 82 ls st (put b pre (ou s 2 v) A post) Q := w_put (show decode kb3 79 = .ok (.putfield 55, 3) from by decide +kernel) pf3_55 put_o (Nat.zero_le _) (by show 14 < 29; omega) rfl put_s2
theorem m3_82 : M3 82 [l0, .val (.int v)] st H Q = M3 83 [l0, .val (.int v)] (.int v :: st) H Q := w_x (show decode kb3 82 = .ok (.iload_n 1, 1) from by decide +kernel) rfl
theorem m3_83 : M3 83 ls (.int z :: st) H Q = Q (some (.int z)) H := w_iret (show decode kb3 83 = .ok (.ireturn, 1) from by decide +kernel) rfl
theorem m4_0 : M4 0 [.val (.ref r)] st H Q = M4 1 [.val (.ref r)] (.ref r :: st) H Q := w_x (show decode kb4 0 = .ok (.aload_n 0, 1) from by decide +kernel) rfl
theorem m4_1 : M4 1 ls (.ref b :: st) (put b pre s A post) Q = M4 4 ls (.int (s 1) :: st) (put b pre s A post) Q := w_get (show decode kb4 1 = .ok (.getfield 51, 3) from by decide +kernel) gf_51 put_o rfl
theorem m4_4 : M4 4 ls (.int x :: st) H Q = if x = 0 then M4 9 ls st H Q else M4 7 ls st H Q := w_if (show decode kb4 4 = .ok (.ifCond .eq 5, 3) from by decide +kernel) (z_eq x) rfl
theorem m4_7 : M4 7 ls st H Q = M4 8 ls (.int (-1) :: st) H Q := w_con (show decode kb4 7 = .ok (.iconst (-1), 1) from by decide +kernel) rfl (by decide)
theorem m4_8 : M4 8 ls (.int z :: st) H Q = Q (some (.int z)) H := w_iret (show decode kb4 8 = .ok (.ireturn, 1) from by decide +kernel) rfl
theorem m4_9 : M4 9 [.val (.ref r)] st H Q = M4 10 [.val (.ref r)] (.ref r :: st) H Q := w_x (show decode kb4 9 = .ok (.aload_n 0, 1) from by decide +kernel) rfl
theorem m4_10 : M4 10 ls (.ref b :: st) (put b pre s A post) Q = M4 13 ls (.int (s 4) :: st) (put b pre s A post) Q := w_get (show decode kb4 10 = .ok (.getfield 61, 3) from by decide +kernel) gf_61 put_o rfl
theorem m4_13 : M4 13 ls (.int x :: st) H Q = if x = 0 then M4 18 ls st H Q else M4 16 ls st H Q := w_if (show decode kb4 13 = .ok (.ifCond .eq 5, 3) from by decide +kernel) (z_eq x) rfl
theorem m4_16 : M4 16 ls st H Q = M4 17 ls (.int (-1) :: st) H Q := w_con (show decode kb4 16 = .ok (.iconst (-1), 1) from by decide +kernel) rfl (by decide)
theorem m4_17 : M4 17 ls (.int z :: st) H Q = Q (some (.int z)) H := w_iret (show decode kb4 17 = .ok (.ireturn, 1) from by decide +kernel) rfl
theorem m4_18 : M4 18 [.val (.ref r)] st H Q = M4 19 [.val (.ref r)] (.ref r :: st) H Q := w_x (show decode kb4 18 = .ok (.aload_n 0, 1) from by decide +kernel) rfl
theorem m4_19 : M4 19 ls (.ref b :: st) (put b pre s A post) Q = M4 22 ls (.int (s 2) :: st) (put b pre s A post) Q := w_get (show decode kb4 19 = .ok (.getfield 55, 3) from by decide +kernel) gf_55 put_o rfl
theorem m4_22 : M4 22 ls (.int x :: st) H Q = if x = 0 then M4 25 ls st H Q else M4 28 ls st H Q := w_ifN (show decode kb4 22 = .ok (.ifCond .ne 6, 3) from by decide +kernel) (z_ne x) rfl
theorem m4_25 : M4 25 ls st H Q = M4 27 ls (.int (-4) :: st) H Q := w_con (show decode kb4 25 = .ok (.bipush (-4), 2) from by decide +kernel) rfl (by decide)
theorem m4_27 : M4 27 ls (.int z :: st) H Q = Q (some (.int z)) H := w_iret (show decode kb4 27 = .ok (.ireturn, 1) from by decide +kernel) rfl
theorem m4_28 : M4 28 [.val (.ref r)] st H Q = M4 29 [.val (.ref r)] (.ref r :: st) H Q := w_x (show decode kb4 28 = .ok (.aload_n 0, 1) from by decide +kernel) rfl
theorem cr4_104 : vR tables_1 dn y4 104 = some (true, y5, prog_1_method_5_code, 2, none, 0, 0) := pR_of (cR_of (by decide +kernel) rc_5 dn_5 dn_4 (sig := ⟨[], none⟩) (by decide +kernel) (by decide +kernel) rfl rfl) (by decide +kernel) (by decide +kernel)
theorem m4_29 : M4 29 ls [.ref b] (put b pre s A post) Q = M5 0 [.val (.ref b), .unset] [] (put b pre s A post) (fun v H1 => M4 32 ls (v.toList ++ []) H1 Q) := w_virt (as := []) (rest := []) (a := b) (show decode kb4 29 = .ok (.invokevirtual 104, 3) from by decide +kernel) cr4_104 put_o rfl rfl (Nat.le_of_ble_eq_true rfl) (by show 1 ≤ 2; omega) rfl
theorem m4_32 : M4 32 [.val (.ref r)] st H Q = M4 33 [.val (.ref r)] (.ref r :: st) H Q := w_x (show decode kb4 32 = .ok (.aload_n 0, 1) from by decide +kernel) rfl
theorem cr4_107 : vR tables_1 dn y4 107 = some (true, y8, prog_1_method_8_code, 9, none, 0, 12) := pR_of (cR_of (by decide +kernel) rc_8 dn_8 dn_4 (sig := ⟨[], none⟩) (by decide +kernel) (by decide +kernel) rfl rfl) (by decide +kernel) (by decide +kernel)
theorem m4_33 : M4 33 ls [.ref b] (put b pre s A post) Q = M8 0 [.val (.ref b), .unset, .unset, .unset, .unset, .unset, .unset, .unset, .unset] [] (put b pre s A post) (fun v H1 => M4 36 ls (v.toList ++ []) H1 Q) := w_virt (as := []) (rest := []) (a := b) (show decode kb4 33 = .ok (.invokevirtual 107, 3) from by decide +kernel) cr4_107 put_o rfl rfl (Nat.le_of_ble_eq_true rfl) (by show 1 ≤ 9; omega) rfl
theorem m4_36 : M4 36 [.val (.ref r)] st H Q = M4 37 [.val (.ref r)] (.ref r :: st) H Q := w_x (show decode kb4 36 = .ok (.aload_n 0, 1) from by decide +kernel) rfl
theorem m4_37 : M4 37 ls st H Q = M4 38 ls (.int 0 :: st) H Q := w_con (show decode kb4 37 = .ok (.iconst 0, 1) from by decide +kernel) rfl (by decide)
theorem pf4_67 : pfR tables_1 y4.cls y4.name 67 = some ("StreamSigScanner", 18, .int) := by decide +kernel
theorem m4_38 : M4 38 ls (.int v :: .ref b :: st) (put b pre s A post) Q = M4 41 ls st (put b pre (ou s 6 v) A post) Q := w_put (show decode kb4 38 = .ok (.putfield 67, 3) from by decide +kernel) pf4_67 put_o (Nat.zero_le _) (by show 18 < 29; omega) rfl put_s6
theorem m4_41 : M4 41 [.val (.ref r)] st H Q = M4 42 [.val (.ref r)] (.ref r :: st) H Q := w_x (show decode kb4 41 = .ok (.aload_n 0, 1) from by decide +kernel) rfl
theorem m4_42 : M4 42 ls st H Q = M4 43 ls (.int 1 :: st) H Q := w_con (show decode kb4 42 = .ok (.iconst 1, 1) from by decide +kernel) rfl (by decide)
theorem pf4_51 : pfR tables_1 y4.cls y4.name 51 = some ("StreamSigScanner", 13, .boolean) := by decide +kernel
theorem m4_43 : M4 43 ls (.int v :: .ref b :: st) (put b pre s A post) Q = M4 46 ls st (put b pre (ou s 1 (nar .boolean v)) A post) Q := w_put (show decode kb4 43 = .ok (.putfield 51, 3) from by decide +kernel) pf4_51 put_o (Nat.zero_le _) (by show 13 < 29; omega) rfl put_s1
theorem m4_46 : M4 46 ls st H Q = M4 47 ls (.int 0 :: st) H Q := w_con (show decode kb4 46 = .ok (.iconst 0, 1) from by decide +kernel) rfl (by decide)
theorem m4_47 : M4 47 ls (.int z :: st) H Q = Q (some (.int z)) H := w_iret (show decode kb4 47 = .ok (.ireturn, 1) from by decide +kernel) rfl
theorem m5_0 : M5 0 [.val (.ref r), l1] st H Q = M5 1 [.val (.ref r), l1] (.ref r :: st) H Q := w_x (show decode kb5 0 = .ok (.aload_n 0, 1) from by decide +kernel) rfl
theorem cr5_110 : vR tables_1 dn y5 110 = some (true, y6, prog_1_method_6_code, 2, none, 0, 6) := pR_of (cR_of (by decide +kernel) rc_6 dn_6 dn_5 (sig := ⟨[], none⟩) (by decide +kernel) (by decide +kernel) rfl rfl) (by decide +kernel) (by decide +kernel)
theorem m5_1 : M5 1 ls [.ref b] (put b pre s A post) Q = M6 0 [.val (.ref b), .unset] [] (put b pre s A post) (fun v H1 => M5 4 ls (v.toList ++ []) H1 Q) := w_virt (as := []) (rest := []) (a := b) (show decode kb5 1 = .ok (.invokevirtual 110, 3) from by decide +kernel) cr5_110 put_o rfl rfl (Nat.le_of_ble_eq_true rfl) (by show 1 ≤ 2; omega) rfl
theorem m5_4 : M5 4 [.val (.ref r), l1] st H Q = M5 5 [.val (.ref r), l1] (.ref r :: st) H Q := w_x (show decode kb5 4 = .ok (.aload_n 0, 1) from by decide +kernel) rfl
theorem m5_5 : M5 5 ls st H Q = M5 6 ls (.int 1 :: st) H Q := w_con (show decode kb5 5 = .ok (.iconst 1, 1) from by decide +kernel) rfl (by decide)
theorem pf5_64 : pfR tables_1 y5.cls y5.name 64 = some ("StreamSigScanner", 17, .int) := by decide +kernel
theorem m5_6 : M5 6 ls (.int v :: .ref b :: st) (put b pre s A post) Q = M5 9 ls st (put b pre (ou s 5 v) A post) Q := w_put (show decode kb5 6 = .ok (.putfield 64, 3) from by decide +kernel) pf5_64 put_o (Nat.zero_le _) (by show 17 < 29; omega) rfl put_s5
theorem m5_9 : M5 9 ls st H Q = M5 10 ls (.int 0 :: st) H Q := w_con (show decode kb5 9 = .ok (.iconst 0, 1) from by decide +kernel) rfl (by decide)
theorem m5_10u : M5 10 [l0, .unset] ((.int v) :: st) H Q = M5 11 [l0, .val (.int v)] st H Q := w_st (i := 1) (p := isI) (show decode kb5 10 = .ok (.istore_n 1, 1) from by decide +kernel) rfl rfl rfl rfl rfl rfl
theorem m5_11 : M5 11 [l0, .val (.int v)] st H Q = M5 12 [l0, .val (.int v)] (.int v :: st) H Q := w_x (show decode kb5 11 = .ok (.iload_n 1, 1) from by decide +kernel) rfl
theorem m5_12 : M5 12 [.val (.ref r), l1] st H Q = M5 13 [.val (.ref r), l1] (.ref r :: st) H Q := w_x (show decode kb5 12 = .ok (.aload_n 0, 1) from by decide +kernel) rfl
theorem m5_13 : M5 13 ls (.ref b :: st) (put b pre s A post) Q = M5 16 ls (.int (s 2) :: st) (put b pre s A post) Q := w_get (show decode kb5 13 = .ok (.getfield 55, 3) from by decide +kernel) gf_55 put_o rfl
theorem m5_16 : M5 16 ls (.int y :: .int x :: st) H Q = if x < y then M5 19 ls st H Q else M5 36 ls st H Q := w_icmpN (show decode kb5 16 = .ok (.if_icmp .ge 20, 3) from by decide +kernel) (i_ge x y) rfl
theorem m5_19 : M5 19 [l0, .val (.int v)] st H Q = M5 20 [l0, .val (.int v)] (.int v :: st) H Q := w_x (show decode kb5 19 = .ok (.iload_n 1, 1) from by decide +kernel) rfl
theorem m5_20 : M5 20 ls st H Q = M5 22 ls (.int 16 :: st) H Q := w_con (show decode kb5 20 = .ok (.bipush 16, 2) from by decide +kernel) rfl (by decide)
theorem m5_22 : M5 22 ls (.int y :: .int x :: st) H Q = if x < y then M5 25 ls st H Q else M5 36 ls st H Q := w_icmpN (show decode kb5 22 = .ok (.if_icmp .ge 14, 3) from by decide +kernel) (i_ge x y) rfl
theorem m5_25 : M5 25 [.val (.ref r), l1] st H Q = M5 26 [.val (.ref r), l1] (.ref r :: st) H Q := w_x (show decode kb5 25 = .ok (.aload_n 0, 1) from by decide +kernel) rfl
theorem m5_26 : M5 26 [l0, .val (.int v)] st H Q = M5 27 [l0, .val (.int v)] (.int v :: st) H Q := w_x (show decode kb5 26 = .ok (.iload_n 1, 1) from by decide +kernel) rfl
theorem cr5_113 : vR tables_1 dn y5 113 = some (true, y7, prog_1_method_7_code, 8, none, 1, 0) := pR_of (cR_of (by decide +kernel) rc_7 dn_7 dn_5 (sig := ⟨[.int], none⟩) (by decide +kernel) (by decide +kernel) rfl rfl) (by decide +kernel) (by decide +kernel)
theorem m5_27 (a0 : Int32) : M5 27 ls [.int a0, .ref b] (put b pre s A post) Q = M7 0 [.val (.ref b), .val (.int a0), .unset, .unset, .unset, .unset, .unset, .unset] [] (put b pre s A post) (fun v H1 => M5 30 ls (v.toList ++ []) H1 Q) := w_virt (as := [.int a0]) (rest := []) (a := b) (show decode kb5 27 = .ok (.invokevirtual 113, 3) from by decide +kernel) cr5_113 put_o rfl rfl (Nat.le_of_ble_eq_true rfl) (by show 2 ≤ 8; omega) rfl
theorem m5_30 : M5 30 [l0, .val (.int v)] st H Q = M5 33 [l0, .val (.int (v + 1))] st H Q := w_iinc (show decode kb5 30 = .ok (.iinc 1 1, 3) from by decide +kernel) rfl (by decide) rfl
theorem m5_33 : M5 33 ls st H Q = M5 11 ls st H Q := w_x (show decode kb5 33 = .ok (.goto (-22), 3) from by decide +kernel) rfl
theorem m5_36 : M5 36 ls [] H Q = Q none H := w_vret (show decode kb5 36 = .ok (.return_, 1) from by decide +kernel) rfl
theorem m6_0 : M6 0 ls st H Q = M6 1 ls (.int 0 :: st) H Q := w_con (show decode kb6 0 = .ok (.iconst 0, 1) from by decide +kernel) rfl (by decide)
theorem m6_1u : M6 1 [l0, .unset] ((.int v) :: st) H Q = M6 2 [l0, .val (.int v)] st H Q := w_st (i := 1) (p := isI) (show decode kb6 1 = .ok (.istore_n 1, 1) from by decide +kernel) rfl rfl rfl rfl rfl rfl
theorem m6_2 : M6 2 [l0, .val (.int v)] st H Q = M6 3 [l0, .val (.int v)] (.int v :: st) H Q := w_x (show decode kb6 2 = .ok (.iload_n 1, 1) from by decide +kernel) rfl
theorem m6_3 : M6 3 ls st H Q = M6 6 ls (.int 16640 :: st) H Q := w_con (show decode kb6 3 = .ok (.sipush 16640, 3) from by decide +kernel) rfl (by decide)
theorem m6_6 : M6 6 ls (.int y :: .int x :: st) H Q = if x < y then M6 9 ls st H Q else M6 22 ls st H Q := w_icmpN (show decode kb6 6 = .ok (.if_icmp .ge 16, 3) from by decide +kernel) (i_ge x y) rfl
theorem m6_9 : M6 9 [.val (.ref r), l1] st H Q = M6 10 [.val (.ref r), l1] (.ref r :: st) H Q := w_x (show decode kb6 9 = .ok (.aload_n 0, 1) from by decide +kernel) rfl
theorem m6_10 : M6 10 ls (.ref b :: st) (put b pre s A post) Q = M6 13 ls (.ref (b + 4) :: st) (put b pre s A post) Q := w_get (show decode kb6 10 = .ok (.getfield 19, 3) from by decide +kernel) gf_19 put_o rfl
theorem m6_13 : M6 13 [l0, .val (.int v)] st H Q = M6 14 [l0, .val (.int v)] (.int v :: st) H Q := w_x (show decode kb6 13 = .ok (.iload_n 1, 1) from by decide +kernel) rfl
theorem m6_14 : M6 14 ls st H Q = M6 15 ls (.int 0 :: st) H Q := w_con (show decode kb6 14 = .ok (.iconst 0, 1) from by decide +kernel) rfl (by decide)
theorem m6_15  : M6 15 ls (.int v :: .int j :: .ref (b + 4) :: st) (put b pre s A post) Q = (inB j (A 3) ∧ M6 16 ls st (put b pre s (ou A 3 (setA (A 3) j v)) post) Q) := w_ist (show decode kb6 15 = .ok (.iastore, 1) from by decide +kernel) rfl put_a3 (Nat.zero_le _) rfl put_w3
theorem m6_16 : M6 16 [l0, .val (.int v)] st H Q = M6 19 [l0, .val (.int (v + 1))] st H Q := w_iinc (show decode kb6 16 = .ok (.iinc 1 1, 3) from by decide +kernel) rfl (by decide) rfl
theorem m6_19 : M6 19 ls st H Q = M6 2 ls st H Q := w_x (show decode kb6 19 = .ok (.goto (-17), 3) from by decide +kernel) rfl
theorem m6_22 : M6 22 ls st H Q = M6 23 ls (.int 0 :: st) H Q := w_con (show decode kb6 22 = .ok (.iconst 0, 1) from by decide +kernel) rfl (by decide)
theorem m6_23i : M6 23 [l0, .val (.int z)] ((.int v) :: st) H Q = M6 24 [l0, .val (.int v)] st H Q := w_st (i := 1) (p := isI) (show decode kb6 23 = .ok (.istore_n 1, 1) from by decide +kernel) rfl rfl rfl rfl rfl rfl
theorem m6_24 : M6 24 [l0, .val (.int v)] st H Q = M6 25 [l0, .val (.int v)] (.int v :: st) H Q := w_x (show decode kb6 24 = .ok (.iload_n 1, 1) from by decide +kernel) rfl
theorem m6_25 : M6 25 ls st H Q = M6 27 ls (.int 65 :: st) H Q := w_con (show decode kb6 25 = .ok (.bipush 65, 2) from by decide +kernel) rfl (by decide)
theorem m6_27 : M6 27 ls (.int y :: .int x :: st) H Q = if x < y then M6 30 ls st H Q else M6 57 ls st H Q := w_icmpN (show decode kb6 27 = .ok (.if_icmp .ge 30, 3) from by decide +kernel) (i_ge x y) rfl
theorem m6_30 : M6 30 [.val (.ref r), l1] st H Q = M6 31 [.val (.ref r), l1] (.ref r :: st) H Q := w_x (show decode kb6 30 = .ok (.aload_n 0, 1) from by decide +kernel) rfl
theorem m6_31 : M6 31 ls (.ref b :: st) (put b pre s A post) Q = M6 34 ls (.ref (b + 5) :: st) (put b pre s A post) Q := w_get (show decode kb6 31 = .ok (.getfield 22, 3) from by decide +kernel) gf_22 put_o rfl
theorem m6_34 : M6 34 [l0, .val (.int v)] st H Q = M6 35 [l0, .val (.int v)] (.int v :: st) H Q := w_x (show decode kb6 34 = .ok (.iload_n 1, 1) from by decide +kernel) rfl
theorem m6_35 : M6 35 ls st H Q = M6 36 ls (.int 0 :: st) H Q := w_con (show decode kb6 35 = .ok (.iconst 0, 1) from by decide +kernel) rfl (by decide)
theorem m6_36  : M6 36 ls (.int v :: .int j :: .ref (b + 5) :: st) (put b pre s A post) Q = (inB j (A 4) ∧ M6 37 ls st (put b pre s (ou A 4 (setA (A 4) j v)) post) Q) := w_ist (show decode kb6 36 = .ok (.iastore, 1) from by decide +kernel) rfl put_a4 (Nat.zero_le _) rfl put_w4
theorem m6_37 : M6 37 [.val (.ref r), l1] st H Q = M6 38 [.val (.ref r), l1] (.ref r :: st) H Q := w_x (show decode kb6 37 = .ok (.aload_n 0, 1) from by decide +kernel) rfl
theorem m6_38 : M6 38 ls (.ref b :: st) (put b pre s A post) Q = M6 41 ls (.ref (b + 6) :: st) (put b pre s A post) Q := w_get (show decode kb6 38 = .ok (.getfield 25, 3) from by decide +kernel) gf_25 put_o rfl
theorem m6_41 : M6 41 [l0, .val (.int v)] st H Q = M6 42 [l0, .val (.int v)] (.int v :: st) H Q := w_x (show decode kb6 41 = .ok (.iload_n 1, 1) from by decide +kernel) rfl
theorem m6_42 : M6 42 ls st H Q = M6 43 ls (.int 0 :: st) H Q := w_con (show decode kb6 42 = .ok (.iconst 0, 1) from by decide +kernel) rfl (by decide)
theorem m6_43  : M6 43 ls (.int v :: .int j :: .ref (b + 6) :: st) (put b pre s A post) Q = (inB j (A 5) ∧ M6 44 ls st (put b pre s (ou A 5 (setA (A 5) j v)) post) Q) := w_ist (show decode kb6 43 = .ok (.iastore, 1) from by decide +kernel) rfl put_a5 (Nat.zero_le _) rfl put_w5
theorem m6_44 : M6 44 [.val (.ref r), l1] st H Q = M6 45 [.val (.ref r), l1] (.ref r :: st) H Q := w_x (show decode kb6 44 = .ok (.aload_n 0, 1) from by decide +kernel) rfl
theorem m6_45 : M6 45 ls (.ref b :: st) (put b pre s A post) Q = M6 48 ls (.ref (b + 7) :: st) (put b pre s A post) Q := w_get (show decode kb6 45 = .ok (.getfield 28, 3) from by decide +kernel) gf_28 put_o rfl
theorem m6_48 : M6 48 [l0, .val (.int v)] st H Q = M6 49 [l0, .val (.int v)] (.int v :: st) H Q := w_x (show decode kb6 48 = .ok (.iload_n 1, 1) from by decide +kernel) rfl
theorem m6_49 : M6 49 ls st H Q = M6 50 ls (.int 0 :: st) H Q := w_con (show decode kb6 49 = .ok (.iconst 0, 1) from by decide +kernel) rfl (by decide)
theorem m6_50  : M6 50 ls (.int v :: .int j :: .ref (b + 7) :: st) (put b pre s A post) Q = (inB j (A 6) ∧ M6 51 ls st (put b pre s (ou A 6 (setA (A 6) j v)) post) Q) := w_ist (show decode kb6 50 = .ok (.iastore, 1) from by decide +kernel) rfl put_a6 (Nat.zero_le _) rfl put_w6
theorem m6_51 : M6 51 [l0, .val (.int v)] st H Q = M6 54 [l0, .val (.int (v + 1))] st H Q := w_iinc (show decode kb6 51 = .ok (.iinc 1 1, 3) from by decide +kernel) rfl (by decide) rfl
theorem m6_54 : M6 54 ls st H Q = M6 24 ls st H Q := w_x (show decode kb6 54 = .ok (.goto (-30), 3) from by decide +kernel) rfl
theorem m6_57 : M6 57 ls [] H Q = Q none H := w_vret (show decode kb6 57 = .ok (.return_, 1) from by decide +kernel) rfl
theorem m7_0 : M7 0 [l0, .val (.int v), l2, l3, l4, l5, l6, l7] st H Q = M7 1 [l0, .val (.int v), l2, l3, l4, l5, l6, l7] (.int v :: st) H Q := w_x (show decode kb7 0 = .ok (.iload_n 1, 1) from by decide +kernel) rfl
theorem m7_1 : M7 1 ls (.int x :: st) H Q = if x < 0 then M7 10 ls st H Q else M7 4 ls st H Q := w_if (show decode kb7 1 = .ok (.ifCond .lt 9, 3) from by decide +kernel) (z_lt x) rfl
theorem m7_4 : M7 4 [l0, .val (.int v), l2, l3, l4, l5, l6, l7] st H Q = M7 5 [l0, .val (.int v), l2, l3, l4, l5, l6, l7] (.int v :: st) H Q := w_x (show decode kb7 4 = .ok (.iload_n 1, 1) from by decide +kernel) rfl
theorem m7_5 : M7 5 ls st H Q = M7 7 ls (.int 16 :: st) H Q := w_con (show decode kb7 5 = .ok (.bipush 16, 2) from by decide +kernel) rfl (by decide)
theorem m7_7 : M7 7 ls (.int y :: .int x :: st) H Q = if x < y then M7 11 ls st H Q else M7 10 ls st H Q := w_icmp (show decode kb7 7 = .ok (.if_icmp .lt 4, 3) from by decide +kernel) (i_lt x y) rfl
theorem m7_10 : M7 10 ls [] H Q = Q none H := w_vret (show decode kb7 10 = .ok (.return_, 1) from by decide +kernel) rfl
theorem m7_11 : M7 11 [.val (.ref r), l1, l2, l3, l4, l5, l6, l7] st H Q = M7 12 [.val (.ref r), l1, l2, l3, l4, l5, l6, l7] (.ref r :: st) H Q := w_x (show decode kb7 11 = .ok (.aload_n 0, 1) from by decide +kernel) rfl
theorem m7_12 : M7 12 ls (.ref b :: st) (put b pre s A post) Q = M7 15 ls (.ref (b + 2) :: st) (put b pre s A post) Q := w_get (show decode kb7 12 = .ok (.getfield 13, 3) from by decide +kernel) gf_13 put_o rfl
theorem m7_15 : M7 15 [l0, .val (.int v), l2, l3, l4, l5, l6, l7] st H Q = M7 16 [l0, .val (.int v), l2, l3, l4, l5, l6, l7] (.int v :: st) H Q := w_x (show decode kb7 15 = .ok (.iload_n 1, 1) from by decide +kernel) rfl
theorem m7_16  : M7 16 ls (.int j :: .ref (b + 2) :: st) (put b pre s A post) Q = (inB j (A 1) ∧ M7 17 ls (.int (getA (A 1) j) :: st) (put b pre s A post) Q) := w_ild (show decode kb7 16 = .ok (.iaload, 1) from by decide +kernel) rfl put_a1
theorem m7_17u : M7 17 [l0, l1, .unset, l3, l4, l5, l6, l7] ((.int v) :: st) H Q = M7 18 [l0, l1, .val (.int v), l3, l4, l5, l6, l7] st H Q := w_st (i := 2) (p := isI) (show decode kb7 17 = .ok (.istore_n 2, 1) from by decide +kernel) rfl rfl rfl rfl rfl rfl
theorem m7_18 : M7 18 [.val (.ref r), l1, l2, l3, l4, l5, l6, l7] st H Q = M7 19 [.val (.ref r), l1, l2, l3, l4, l5, l6, l7] (.ref r :: st) H Q := w_x (show decode kb7 18 = .ok (.aload_n 0, 1) from by decide +kernel) rfl
theorem m7_19 : M7 19 ls (.ref b :: st) (put b pre s A post) Q = M7 22 ls (.ref (b + 3) :: st) (put b pre s A post) Q := w_get (show decode kb7 19 = .ok (.getfield 16, 3) from by decide +kernel) gf_16 put_o rfl
theorem m7_22 : M7 22 [l0, .val (.int v), l2, l3, l4, l5, l6, l7] st H Q = M7 23 [l0, .val (.int v), l2, l3, l4, l5, l6, l7] (.int v :: st) H Q := w_x (show decode kb7 22 = .ok (.iload_n 1, 1) from by decide +kernel) rfl
theorem m7_23  : M7 23 ls (.int j :: .ref (b + 3) :: st) (put b pre s A post) Q = (inB j (A 2) ∧ M7 24 ls (.int (getA (A 2) j) :: st) (put b pre s A post) Q) := w_ild (show decode kb7 23 = .ok (.iaload, 1) from by decide +kernel) rfl put_a2
theorem m7_24u : M7 24 [l0, l1, l2, .unset, l4, l5, l6, l7] ((.int v) :: st) H Q = M7 25 [l0, l1, l2, .val (.int v), l4, l5, l6, l7] st H Q := w_st (i := 3) (p := isI) (show decode kb7 24 = .ok (.istore_n 3, 1) from by decide +kernel) rfl rfl rfl rfl rfl rfl
theorem m7_25 : M7 25 ls st H Q = M7 26 ls (.int 0 :: st) H Q := w_con (show decode kb7 25 = .ok (.iconst 0, 1) from by decide +kernel) rfl (by decide)
theorem m7_26u : M7 26 [l0, l1, l2, l3, .unset, l5, l6, l7] ((.int v) :: st) H Q = M7 28 [l0, l1, l2, l3, .val (.int v), l5, l6, l7] st H Q := w_st (i := 4) (p := isI) (show decode kb7 26 = .ok (.istore 4, 2) from by decide +kernel) rfl rfl rfl rfl rfl rfl
theorem m7_28 : M7 28 ls st H Q = M7 29 ls (.int 0 :: st) H Q := w_con (show decode kb7 28 = .ok (.iconst 0, 1) from by decide +kernel) rfl (by decide)
theorem m7_29u : M7 29 [l0, l1, l2, l3, l4, .unset, l6, l7] ((.int v) :: st) H Q = M7 31 [l0, l1, l2, l3, l4, .val (.int v), l6, l7] st H Q := w_st (i := 5) (p := isI) (show decode kb7 29 = .ok (.istore 5, 2) from by decide +kernel) rfl rfl rfl rfl rfl rfl
theorem m7_31 : M7 31 [l0, l1, l2, l3, l4, .val (.int v), l6, l7] st H Q = M7 33 [l0, l1, l2, l3, l4, .val (.int v), l6, l7] (.int v :: st) H Q := w_x (show decode kb7 31 = .ok (.iload 5, 2) from by decide +kernel) rfl
theorem m7_33 : M7 33 [l0, l1, l2, .val (.int v), l4, l5, l6, l7] st H Q = M7 34 [l0, l1, l2, .val (.int v), l4, l5, l6, l7] (.int v :: st) H Q := w_x (show decode kb7 33 = .ok (.iload_n 3, 1) from by decide +kernel) rfl
theorem m7_34 : M7 34 ls (.int y :: .int x :: st) H Q = if x < y then M7 37 ls st H Q else M7 149 ls st H Q := w_icmpN (show decode kb7 34 = .ok (.if_icmp .ge 115, 3) from by decide +kernel) (i_ge x y) rfl
theorem m7_37 : M7 37 [l0, l1, l2, l3, l4, .val (.int v), l6, l7] st H Q = M7 39 [l0, l1, l2, l3, l4, .val (.int v), l6, l7] (.int v :: st) H Q := w_x (show decode kb7 37 = .ok (.iload 5, 2) from by decide +kernel) rfl
theorem m7_39 : M7 39 ls st H Q = M7 41 ls (.int 16 :: st) H Q := w_con (show decode kb7 39 = .ok (.bipush 16, 2) from by decide +kernel) rfl (by decide)
theorem m7_41 : M7 41 ls (.int y :: .int x :: st) H Q = if x < y then M7 44 ls st H Q else M7 149 ls st H Q := w_icmpN (show decode kb7 41 = .ok (.if_icmp .ge 108, 3) from by decide +kernel) (i_ge x y) rfl
theorem m7_44 : M7 44 [l0, l1, .val (.int v), l3, l4, l5, l6, l7] st H Q = M7 45 [l0, l1, .val (.int v), l3, l4, l5, l6, l7] (.int v :: st) H Q := w_x (show decode kb7 44 = .ok (.iload_n 2, 1) from by decide +kernel) rfl
theorem m7_45 : M7 45 [l0, l1, l2, l3, l4, .val (.int v), l6, l7] st H Q = M7 47 [l0, l1, l2, l3, l4, .val (.int v), l6, l7] (.int v :: st) H Q := w_x (show decode kb7 45 = .ok (.iload 5, 2) from by decide +kernel) rfl
theorem m7_47 : M7 47 ls (.int y :: .int x :: st) H Q = M7 48 ls (.int (x + y) :: st) H Q := w_x (show decode kb7 47 = .ok (.iadd, 1) from by decide +kernel) rfl
theorem m7_48u : M7 48 [l0, l1, l2, l3, l4, l5, .unset, l7] ((.int v) :: st) H Q = M7 50 [l0, l1, l2, l3, l4, l5, .val (.int v), l7] st H Q := w_st (i := 6) (p := isI) (show decode kb7 48 = .ok (.istore 6, 2) from by decide +kernel) rfl rfl rfl rfl rfl rfl
theorem m7_48i : M7 48 [l0, l1, l2, l3, l4, l5, .val (.int z), l7] ((.int v) :: st) H Q = M7 50 [l0, l1, l2, l3, l4, l5, .val (.int v), l7] st H Q := w_st (i := 6) (p := isI) (show decode kb7 48 = .ok (.istore 6, 2) from by decide +kernel) rfl rfl rfl rfl rfl rfl
theorem m7_48r : M7 48 [l0, l1, l2, l3, l4, l5, .val (.ref q), l7] ((.int v) :: st) H Q = M7 50 [l0, l1, l2, l3, l4, l5, .val (.int v), l7] st H Q := w_st (i := 6) (p := isI) (show decode kb7 48 = .ok (.istore 6, 2) from by decide +kernel) rfl rfl rfl rfl rfl rfl
theorem m7_48g (h : okS l6) : M7 48 [l0, l1, l2, l3, l4, l5, l6, l7] ((.int v) :: st) H Q = M7 50 [l0, l1, l2, l3, l4, l5, .val (.int v), l7] st H Q := by rcases h with rfl | ⟨z, rfl⟩ <;> first | exact m7_48u | exact m7_48i
theorem m7_50 : M7 50 [l0, l1, l2, l3, l4, l5, .val (.int v), l7] st H Q = M7 52 [l0, l1, l2, l3, l4, l5, .val (.int v), l7] (.int v :: st) H Q := w_x (show decode kb7 50 = .ok (.iload 6, 2) from by decide +kernel) rfl
theorem m7_52 : M7 52 ls (.int x :: st) H Q = if x < 0 then M7 62 ls st H Q else M7 55 ls st H Q := w_if (show decode kb7 52 = .ok (.ifCond .lt 10, 3) from by decide +kernel) (z_lt x) rfl
theorem m7_55 : M7 55 [l0, l1, l2, l3, l4, l5, .val (.int v), l7] st H Q = M7 57 [l0, l1, l2, l3, l4, l5, .val (.int v), l7] (.int v :: st) H Q := w_x (show decode kb7 55 = .ok (.iload 6, 2) from by decide +kernel) rfl
theorem m7_57 : M7 57 ls st H Q = M7 59 ls (.int 64 :: st) H Q := w_con (show decode kb7 57 = .ok (.bipush 64, 2) from by decide +kernel) rfl (by decide)
theorem m7_59 : M7 59 ls (.int y :: .int x :: st) H Q = if x < y then M7 63 ls st H Q else M7 62 ls st H Q := w_icmp (show decode kb7 59 = .ok (.if_icmp .lt 4, 3) from by decide +kernel) (i_lt x y) rfl
theorem m7_62 : M7 62 ls [] H Q = Q none H := w_vret (show decode kb7 62 = .ok (.return_, 1) from by decide +kernel) rfl
theorem m7_63 : M7 63 [l0, l1, l2, l3, .val (.int v), l5, l6, l7] st H Q = M7 65 [l0, l1, l2, l3, .val (.int v), l5, l6, l7] (.int v :: st) H Q := w_x (show decode kb7 63 = .ok (.iload 4, 2) from by decide +kernel) rfl
theorem m7_65 : M7 65 ls st H Q = M7 68 ls (.int 256 :: st) H Q := w_con (show decode kb7 65 = .ok (.sipush 256, 3) from by decide +kernel) rfl (by decide)
theorem m7_68 : M7 68 ls (.int y :: .int x :: st) H Q = M7 69 ls (.int (x * y) :: st) H Q := w_x (show decode kb7 68 = .ok (.imul, 1) from by decide +kernel) rfl
theorem m7_69 : M7 69 [.val (.ref r), l1, l2, l3, l4, l5, l6, l7] st H Q = M7 70 [.val (.ref r), l1, l2, l3, l4, l5, l6, l7] (.ref r :: st) H Q := w_x (show decode kb7 69 = .ok (.aload_n 0, 1) from by decide +kernel) rfl
theorem m7_70 : M7 70 ls (.ref b :: st) (put b pre s A post) Q = M7 73 ls (.ref (b + 1) :: st) (put b pre s A post) Q := w_get (show decode kb7 70 = .ok (.getfield 7, 3) from by decide +kernel) gf_7 put_o rfl
theorem m7_73 : M7 73 [l0, l1, l2, l3, l4, l5, .val (.int v), l7] st H Q = M7 75 [l0, l1, l2, l3, l4, l5, .val (.int v), l7] (.int v :: st) H Q := w_x (show decode kb7 73 = .ok (.iload 6, 2) from by decide +kernel) rfl
theorem m7_75  : M7 75 ls (.int j :: .ref (b + 1) :: st) (put b pre s A post) Q = (inB j (A 0) ∧ M7 76 ls (.int (getA (A 0) j) :: st) (put b pre s A post) Q) := w_ild (show decode kb7 75 = .ok (.iaload, 1) from by decide +kernel) rfl put_a0
theorem m7_76 : M7 76 ls (.int y :: .int x :: st) H Q = M7 77 ls (.int (x + y) :: st) H Q := w_x (show decode kb7 76 = .ok (.iadd, 1) from by decide +kernel) rfl
theorem m7_77u : M7 77 [l0, l1, l2, l3, l4, l5, l6, .unset] ((.int v) :: st) H Q = M7 79 [l0, l1, l2, l3, l4, l5, l6, .val (.int v)] st H Q := w_st (i := 7) (p := isI) (show decode kb7 77 = .ok (.istore 7, 2) from by decide +kernel) rfl rfl rfl rfl rfl rfl
theorem m7_77i : M7 77 [l0, l1, l2, l3, l4, l5, l6, .val (.int z)] ((.int v) :: st) H Q = M7 79 [l0, l1, l2, l3, l4, l5, l6, .val (.int v)] st H Q := w_st (i := 7) (p := isI) (show decode kb7 77 = .ok (.istore 7, 2) from by decide +kernel) rfl rfl rfl rfl rfl rfl
theorem m7_77r : M7 77 [l0, l1, l2, l3, l4, l5, l6, .val (.ref q)] ((.int v) :: st) H Q = M7 79 [l0, l1, l2, l3, l4, l5, l6, .val (.int v)] st H Q := w_st (i := 7) (p := isI) (show decode kb7 77 = .ok (.istore 7, 2) from by decide +kernel) rfl rfl rfl rfl rfl rfl
theorem m7_77g (h : okS l7) : M7 77 [l0, l1, l2, l3, l4, l5, l6, l7] ((.int v) :: st) H Q = M7 79 [l0, l1, l2, l3, l4, l5, l6, .val (.int v)] st H Q := by rcases h with rfl | ⟨z, rfl⟩ <;> first | exact m7_77u | exact m7_77i
theorem m7_79 : M7 79 [l0, l1, l2, l3, l4, l5, l6, .val (.int v)] st H Q = M7 81 [l0, l1, l2, l3, l4, l5, l6, .val (.int v)] (.int v :: st) H Q := w_x (show decode kb7 79 = .ok (.iload 7, 2) from by decide +kernel) rfl
theorem m7_81 : M7 81 ls (.int x :: st) H Q = if x < 0 then M7 92 ls st H Q else M7 84 ls st H Q := w_if (show decode kb7 81 = .ok (.ifCond .lt 11, 3) from by decide +kernel) (z_lt x) rfl
theorem m7_84 : M7 84 [l0, l1, l2, l3, l4, l5, l6, .val (.int v)] st H Q = M7 86 [l0, l1, l2, l3, l4, l5, l6, .val (.int v)] (.int v :: st) H Q := w_x (show decode kb7 84 = .ok (.iload 7, 2) from by decide +kernel) rfl
theorem m7_86 : M7 86 ls st H Q = M7 89 ls (.int 16640 :: st) H Q := w_con (show decode kb7 86 = .ok (.sipush 16640, 3) from by decide +kernel) rfl (by decide)
theorem m7_89 : M7 89 ls (.int y :: .int x :: st) H Q = if x < y then M7 93 ls st H Q else M7 92 ls st H Q := w_icmp (show decode kb7 89 = .ok (.if_icmp .lt 4, 3) from by decide +kernel) (i_lt x y) rfl
theorem m7_92 : M7 92 ls [] H Q = Q none H := w_vret (show decode kb7 92 = .ok (.return_, 1) from by decide +kernel) rfl
theorem m7_93 : M7 93 [.val (.ref r), l1, l2, l3, l4, l5, l6, l7] st H Q = M7 94 [.val (.ref r), l1, l2, l3, l4, l5, l6, l7] (.ref r :: st) H Q := w_x (show decode kb7 93 = .ok (.aload_n 0, 1) from by decide +kernel) rfl
theorem m7_94 : M7 94 ls (.ref b :: st) (put b pre s A post) Q = M7 97 ls (.ref (b + 4) :: st) (put b pre s A post) Q := w_get (show decode kb7 94 = .ok (.getfield 19, 3) from by decide +kernel) gf_19 put_o rfl
theorem m7_97 : M7 97 [l0, l1, l2, l3, l4, l5, l6, .val (.int v)] st H Q = M7 99 [l0, l1, l2, l3, l4, l5, l6, .val (.int v)] (.int v :: st) H Q := w_x (show decode kb7 97 = .ok (.iload 7, 2) from by decide +kernel) rfl
theorem m7_99  : M7 99 ls (.int j :: .ref (b + 4) :: st) (put b pre s A post) Q = (inB j (A 3) ∧ M7 100 ls (.int (getA (A 3) j) :: st) (put b pre s A post) Q) := w_ild (show decode kb7 99 = .ok (.iaload, 1) from by decide +kernel) rfl put_a3
theorem m7_100 : M7 100 ls (.int x :: st) H Q = if x = 0 then M7 103 ls st H Q else M7 134 ls st H Q := w_ifN (show decode kb7 100 = .ok (.ifCond .ne 34, 3) from by decide +kernel) (z_ne x) rfl
theorem m7_103 : M7 103 [.val (.ref r), l1, l2, l3, l4, l5, l6, l7] st H Q = M7 104 [.val (.ref r), l1, l2, l3, l4, l5, l6, l7] (.ref r :: st) H Q := w_x (show decode kb7 103 = .ok (.aload_n 0, 1) from by decide +kernel) rfl
theorem m7_104 : M7 104 ls (.ref b :: st) (put b pre s A post) Q = M7 107 ls (.int (s 5) :: st) (put b pre s A post) Q := w_get (show decode kb7 104 = .ok (.getfield 64, 3) from by decide +kernel) gf_64 put_o rfl
theorem m7_107 : M7 107 ls st H Q = M7 109 ls (.int 65 :: st) H Q := w_con (show decode kb7 107 = .ok (.bipush 65, 2) from by decide +kernel) rfl (by decide)
theorem m7_109 : M7 109 ls (.int y :: .int x :: st) H Q = if x < y then M7 113 ls st H Q else M7 112 ls st H Q := w_icmp (show decode kb7 109 = .ok (.if_icmp .lt 4, 3) from by decide +kernel) (i_lt x y) rfl
theorem m7_112 : M7 112 ls [] H Q = Q none H := w_vret (show decode kb7 112 = .ok (.return_, 1) from by decide +kernel) rfl
theorem m7_113 : M7 113 [.val (.ref r), l1, l2, l3, l4, l5, l6, l7] st H Q = M7 114 [.val (.ref r), l1, l2, l3, l4, l5, l6, l7] (.ref r :: st) H Q := w_x (show decode kb7 113 = .ok (.aload_n 0, 1) from by decide +kernel) rfl
theorem m7_114 : M7 114 ls (.ref b :: st) (put b pre s A post) Q = M7 117 ls (.ref (b + 4) :: st) (put b pre s A post) Q := w_get (show decode kb7 114 = .ok (.getfield 19, 3) from by decide +kernel) gf_19 put_o rfl
theorem m7_117 : M7 117 [l0, l1, l2, l3, l4, l5, l6, .val (.int v)] st H Q = M7 119 [l0, l1, l2, l3, l4, l5, l6, .val (.int v)] (.int v :: st) H Q := w_x (show decode kb7 117 = .ok (.iload 7, 2) from by decide +kernel) rfl
theorem m7_119 : M7 119 [.val (.ref r), l1, l2, l3, l4, l5, l6, l7] st H Q = M7 120 [.val (.ref r), l1, l2, l3, l4, l5, l6, l7] (.ref r :: st) H Q := w_x (show decode kb7 119 = .ok (.aload_n 0, 1) from by decide +kernel) rfl
theorem m7_120 : M7 120 ls (.ref b :: st) (put b pre s A post) Q = M7 123 ls (.int (s 5) :: st) (put b pre s A post) Q := w_get (show decode kb7 120 = .ok (.getfield 64, 3) from by decide +kernel) gf_64 put_o rfl
theorem m7_123  : M7 123 ls (.int v :: .int j :: .ref (b + 4) :: st) (put b pre s A post) Q = (inB j (A 3) ∧ M7 124 ls st (put b pre s (ou A 3 (setA (A 3) j v)) post) Q) := w_ist (show decode kb7 123 = .ok (.iastore, 1) from by decide +kernel) rfl put_a3 (Nat.zero_le _) rfl put_w3
theorem m7_124 : M7 124 [.val (.ref r), l1, l2, l3, l4, l5, l6, l7] st H Q = M7 125 [.val (.ref r), l1, l2, l3, l4, l5, l6, l7] (.ref r :: st) H Q := w_x (show decode kb7 124 = .ok (.aload_n 0, 1) from by decide +kernel) rfl
theorem m7_125 : M7 125 ls ((.ref r) :: st) H Q = M7 126 ls ((.ref r) :: (.ref r) :: st) H Q := w_x (show decode kb7 125 = .ok (.dup, 1) from by decide +kernel) rfl
theorem m7_126 : M7 126 ls (.ref b :: st) (put b pre s A post) Q = M7 129 ls (.int (s 5) :: st) (put b pre s A post) Q := w_get (show decode kb7 126 = .ok (.getfield 64, 3) from by decide +kernel) gf_64 put_o rfl
theorem m7_129 : M7 129 ls st H Q = M7 130 ls (.int 1 :: st) H Q := w_con (show decode kb7 129 = .ok (.iconst 1, 1) from by decide +kernel) rfl (by decide)
theorem m7_130 : M7 130 ls (.int y :: .int x :: st) H Q = M7 131 ls (.int (x + y) :: st) H Q := w_x (show decode kb7 130 = .ok (.iadd, 1) from by decide +kernel) rfl
theorem pf7_64 : pfR tables_1 y7.cls y7.name 64 = some ("StreamSigScanner", 17, .int) := by decide +kernel
theorem m7_131 : M7 131 ls (.int v :: .ref b :: st) (put b pre s A post) Q = M7 134 ls st (put b pre (ou s 5 v) A post) Q := w_put (show decode kb7 131 = .ok (.putfield 64, 3) from by decide +kernel) pf7_64 put_o (Nat.zero_le _) (by show 17 < 29; omega) rfl put_s5
theorem m7_134 : M7 134 [.val (.ref r), l1, l2, l3, l4, l5, l6, l7] st H Q = M7 135 [.val (.ref r), l1, l2, l3, l4, l5, l6, l7] (.ref r :: st) H Q := w_x (show decode kb7 134 = .ok (.aload_n 0, 1) from by decide +kernel) rfl
theorem m7_135 : M7 135 ls (.ref b :: st) (put b pre s A post) Q = M7 138 ls (.ref (b + 4) :: st) (put b pre s A post) Q := w_get (show decode kb7 135 = .ok (.getfield 19, 3) from by decide +kernel) gf_19 put_o rfl
theorem m7_138 : M7 138 [l0, l1, l2, l3, l4, l5, l6, .val (.int v)] st H Q = M7 140 [l0, l1, l2, l3, l4, l5, l6, .val (.int v)] (.int v :: st) H Q := w_x (show decode kb7 138 = .ok (.iload 7, 2) from by decide +kernel) rfl
theorem m7_140  : M7 140 ls (.int j :: .ref (b + 4) :: st) (put b pre s A post) Q = (inB j (A 3) ∧ M7 141 ls (.int (getA (A 3) j) :: st) (put b pre s A post) Q) := w_ild (show decode kb7 140 = .ok (.iaload, 1) from by decide +kernel) rfl put_a3
theorem m7_141i : M7 141 [l0, l1, l2, l3, .val (.int z), l5, l6, l7] ((.int v) :: st) H Q = M7 143 [l0, l1, l2, l3, .val (.int v), l5, l6, l7] st H Q := w_st (i := 4) (p := isI) (show decode kb7 141 = .ok (.istore 4, 2) from by decide +kernel) rfl rfl rfl rfl rfl rfl
theorem m7_143 : M7 143 [l0, l1, l2, l3, l4, .val (.int v), l6, l7] st H Q = M7 146 [l0, l1, l2, l3, l4, .val (.int (v + 1)), l6, l7] st H Q := w_iinc (show decode kb7 143 = .ok (.iinc 5 1, 3) from by decide +kernel) rfl (by decide) rfl
theorem m7_146 : M7 146 ls st H Q = M7 31 ls st H Q := w_x (show decode kb7 146 = .ok (.goto (-115), 3) from by decide +kernel) rfl
theorem m7_149 : M7 149 [l0, l1, l2, l3, .val (.int v), l5, l6, l7] st H Q = M7 151 [l0, l1, l2, l3, .val (.int v), l5, l6, l7] (.int v :: st) H Q := w_x (show decode kb7 149 = .ok (.iload 4, 2) from by decide +kernel) rfl
theorem m7_151 : M7 151 ls (.int x :: st) H Q = if x < 0 then M7 174 ls st H Q else M7 154 ls st H Q := w_if (show decode kb7 151 = .ok (.ifCond .lt 23, 3) from by decide +kernel) (z_lt x) rfl
theorem m7_154 : M7 154 [l0, l1, l2, l3, .val (.int v), l5, l6, l7] st H Q = M7 156 [l0, l1, l2, l3, .val (.int v), l5, l6, l7] (.int v :: st) H Q := w_x (show decode kb7 154 = .ok (.iload 4, 2) from by decide +kernel) rfl
theorem m7_156 : M7 156 ls st H Q = M7 158 ls (.int 65 :: st) H Q := w_con (show decode kb7 156 = .ok (.bipush 65, 2) from by decide +kernel) rfl (by decide)
theorem m7_158 : M7 158 ls (.int y :: .int x :: st) H Q = if x < y then M7 161 ls st H Q else M7 174 ls st H Q := w_icmpN (show decode kb7 158 = .ok (.if_icmp .ge 16, 3) from by decide +kernel) (i_ge x y) rfl
theorem m7_161 : M7 161 [.val (.ref r), l1, l2, l3, l4, l5, l6, l7] st H Q = M7 162 [.val (.ref r), l1, l2, l3, l4, l5, l6, l7] (.ref r :: st) H Q := w_x (show decode kb7 161 = .ok (.aload_n 0, 1) from by decide +kernel) rfl
theorem m7_162 : M7 162 ls (.ref b :: st) (put b pre s A post) Q = M7 165 ls (.ref (b + 6) :: st) (put b pre s A post) Q := w_get (show decode kb7 162 = .ok (.getfield 25, 3) from by decide +kernel) gf_25 put_o rfl
theorem m7_165 : M7 165 [l0, l1, l2, l3, .val (.int v), l5, l6, l7] st H Q = M7 167 [l0, l1, l2, l3, .val (.int v), l5, l6, l7] (.int v :: st) H Q := w_x (show decode kb7 165 = .ok (.iload 4, 2) from by decide +kernel) rfl
theorem m7_167 : M7 167 ls (.int x :: .ref q :: st) H Q = M7 168 ls (.int x :: .ref q :: .int x :: .ref q :: st) H Q := w_x (show decode kb7 167 = .ok (.dup2, 1) from by decide +kernel) rfl
theorem m7_168  : M7 168 ls (.int j :: .ref (b + 6) :: st) (put b pre s A post) Q = (inB j (A 5) ∧ M7 169 ls (.int (getA (A 5) j) :: st) (put b pre s A post) Q) := w_ild (show decode kb7 168 = .ok (.iaload, 1) from by decide +kernel) rfl put_a5
theorem m7_169 : M7 169 ls st H Q = M7 170 ls (.int 1 :: st) H Q := w_con (show decode kb7 169 = .ok (.iconst 1, 1) from by decide +kernel) rfl (by decide)
theorem m7_170 : M7 170 [l0, .val (.int v), l2, l3, l4, l5, l6, l7] st H Q = M7 171 [l0, .val (.int v), l2, l3, l4, l5, l6, l7] (.int v :: st) H Q := w_x (show decode kb7 170 = .ok (.iload_n 1, 1) from by decide +kernel) rfl
theorem m7_171 : M7 171 ls (.int y :: .int x :: st) H Q = M7 172 ls (.int (x <<< (y &&& 31)) :: st) H Q := w_x (show decode kb7 171 = .ok (.ishl, 1) from by decide +kernel) rfl
theorem m7_172 : M7 172 ls (.int y :: .int x :: st) H Q = M7 173 ls (.int (x ||| y) :: st) H Q := w_x (show decode kb7 172 = .ok (.ior, 1) from by decide +kernel) rfl
theorem m7_173  : M7 173 ls (.int v :: .int j :: .ref (b + 6) :: st) (put b pre s A post) Q = (inB j (A 5) ∧ M7 174 ls st (put b pre s (ou A 5 (setA (A 5) j v)) post) Q) := w_ist (show decode kb7 173 = .ok (.iastore, 1) from by decide +kernel) rfl put_a5 (Nat.zero_le _) rfl put_w5
theorem m7_174 : M7 174 ls [] H Q = Q none H := w_vret (show decode kb7 174 = .ok (.return_, 1) from by decide +kernel) rfl
theorem m8_0 : M8 0 ls st H Q = M8 1 ls (.int 0 :: st) H Q := w_con (show decode kb8 0 = .ok (.iconst 0, 1) from by decide +kernel) rfl (by decide)
theorem m8_1u : M8 1 [l0, .unset, l2, l3, l4, l5, l6, l7, l8] ((.int v) :: st) H Q = M8 2 [l0, .val (.int v), l2, l3, l4, l5, l6, l7, l8] st H Q := w_st (i := 1) (p := isI) (show decode kb8 1 = .ok (.istore_n 1, 1) from by decide +kernel) rfl rfl rfl rfl rfl rfl
theorem m8_2 : M8 2 ls st H Q = M8 3 ls (.int 0 :: st) H Q := w_con (show decode kb8 2 = .ok (.iconst 0, 1) from by decide +kernel) rfl (by decide)
theorem m8_3u : M8 3 [l0, l1, .unset, l3, l4, l5, l6, l7, l8] ((.int v) :: st) H Q = M8 4 [l0, l1, .val (.int v), l3, l4, l5, l6, l7, l8] st H Q := w_st (i := 2) (p := isI) (show decode kb8 3 = .ok (.istore_n 2, 1) from by decide +kernel) rfl rfl rfl rfl rfl rfl
theorem m8_4 : M8 4 [l0, l1, .val (.int v), l3, l4, l5, l6, l7, l8] st H Q = M8 5 [l0, l1, .val (.int v), l3, l4, l5, l6, l7, l8] (.int v :: st) H Q := w_x (show decode kb8 4 = .ok (.iload_n 2, 1) from by decide +kernel) rfl
theorem m8_5 : M8 5 ls st H Q = M8 8 ls (.int 256 :: st) H Q := w_con (show decode kb8 5 = .ok (.sipush 256, 3) from by decide +kernel) rfl (by decide)
theorem m8_8 : M8 8 ls (.int y :: .int x :: st) H Q = if x < y then M8 11 ls st H Q else M8 57 ls st H Q := w_icmpN (show decode kb8 8 = .ok (.if_icmp .ge 49, 3) from by decide +kernel) (i_ge x y) rfl
theorem m8_11 : M8 11 [.val (.ref r), l1, l2, l3, l4, l5, l6, l7, l8] st H Q = M8 12 [.val (.ref r), l1, l2, l3, l4, l5, l6, l7, l8] (.ref r :: st) H Q := w_x (show decode kb8 11 = .ok (.aload_n 0, 1) from by decide +kernel) rfl
theorem m8_12 : M8 12 ls (.ref b :: st) (put b pre s A post) Q = M8 15 ls (.ref (b + 4) :: st) (put b pre s A post) Q := w_get (show decode kb8 12 = .ok (.getfield 19, 3) from by decide +kernel) gf_19 put_o rfl
theorem m8_15 : M8 15 [l0, l1, .val (.int v), l3, l4, l5, l6, l7, l8] st H Q = M8 16 [l0, l1, .val (.int v), l3, l4, l5, l6, l7, l8] (.int v :: st) H Q := w_x (show decode kb8 15 = .ok (.iload_n 2, 1) from by decide +kernel) rfl
theorem m8_16  : M8 16 ls (.int j :: .ref (b + 4) :: st) (put b pre s A post) Q = (inB j (A 3) ∧ M8 17 ls (.int (getA (A 3) j) :: st) (put b pre s A post) Q) := w_ild (show decode kb8 16 = .ok (.iaload, 1) from by decide +kernel) rfl put_a3
theorem m8_17u : M8 17 [l0, l1, l2, .unset, l4, l5, l6, l7, l8] ((.int v) :: st) H Q = M8 18 [l0, l1, l2, .val (.int v), l4, l5, l6, l7, l8] st H Q := w_st (i := 3) (p := isI) (show decode kb8 17 = .ok (.istore_n 3, 1) from by decide +kernel) rfl rfl rfl rfl rfl rfl
theorem m8_17i : M8 17 [l0, l1, l2, .val (.int z), l4, l5, l6, l7, l8] ((.int v) :: st) H Q = M8 18 [l0, l1, l2, .val (.int v), l4, l5, l6, l7, l8] st H Q := w_st (i := 3) (p := isI) (show decode kb8 17 = .ok (.istore_n 3, 1) from by decide +kernel) rfl rfl rfl rfl rfl rfl
theorem m8_17r : M8 17 [l0, l1, l2, .val (.ref q), l4, l5, l6, l7, l8] ((.int v) :: st) H Q = M8 18 [l0, l1, l2, .val (.int v), l4, l5, l6, l7, l8] st H Q := w_st (i := 3) (p := isI) (show decode kb8 17 = .ok (.istore_n 3, 1) from by decide +kernel) rfl rfl rfl rfl rfl rfl
theorem m8_17g (h : okS l3) : M8 17 [l0, l1, l2, l3, l4, l5, l6, l7, l8] ((.int v) :: st) H Q = M8 18 [l0, l1, l2, .val (.int v), l4, l5, l6, l7, l8] st H Q := by rcases h with rfl | ⟨z, rfl⟩ <;> first | exact m8_17u | exact m8_17i
theorem m8_18 : M8 18 [l0, l1, l2, .val (.int v), l4, l5, l6, l7, l8] st H Q = M8 19 [l0, l1, l2, .val (.int v), l4, l5, l6, l7, l8] (.int v :: st) H Q := w_x (show decode kb8 18 = .ok (.iload_n 3, 1) from by decide +kernel) rfl
theorem m8_19 : M8 19 ls (.int x :: st) H Q = if 0 < x then M8 22 ls st H Q else M8 51 ls st H Q := w_ifN (show decode kb8 19 = .ok (.ifCond .le 32, 3) from by decide +kernel) (z_le x) rfl
theorem m8_22 : M8 22 [l0, l1, l2, .val (.int v), l4, l5, l6, l7, l8] st H Q = M8 23 [l0, l1, l2, .val (.int v), l4, l5, l6, l7, l8] (.int v :: st) H Q := w_x (show decode kb8 22 = .ok (.iload_n 3, 1) from by decide +kernel) rfl
theorem m8_23 : M8 23 ls st H Q = M8 25 ls (.int 65 :: st) H Q := w_con (show decode kb8 23 = .ok (.bipush 65, 2) from by decide +kernel) rfl (by decide)
theorem m8_25 : M8 25 ls (.int y :: .int x :: st) H Q = if x < y then M8 28 ls st H Q else M8 51 ls st H Q := w_icmpN (show decode kb8 25 = .ok (.if_icmp .ge 26, 3) from by decide +kernel) (i_ge x y) rfl
theorem m8_28 : M8 28 [l0, .val (.int v), l2, l3, l4, l5, l6, l7, l8] st H Q = M8 29 [l0, .val (.int v), l2, l3, l4, l5, l6, l7, l8] (.int v :: st) H Q := w_x (show decode kb8 28 = .ok (.iload_n 1, 1) from by decide +kernel) rfl
theorem m8_29 : M8 29 ls st H Q = M8 31 ls (.int 65 :: st) H Q := w_con (show decode kb8 29 = .ok (.bipush 65, 2) from by decide +kernel) rfl (by decide)
theorem m8_31 : M8 31 ls (.int y :: .int x :: st) H Q = if x < y then M8 34 ls st H Q else M8 51 ls st H Q := w_icmpN (show decode kb8 31 = .ok (.if_icmp .ge 20, 3) from by decide +kernel) (i_ge x y) rfl
theorem m8_34 : M8 34 [.val (.ref r), l1, l2, l3, l4, l5, l6, l7, l8] st H Q = M8 35 [.val (.ref r), l1, l2, l3, l4, l5, l6, l7, l8] (.ref r :: st) H Q := w_x (show decode kb8 34 = .ok (.aload_n 0, 1) from by decide +kernel) rfl
theorem m8_35 : M8 35 ls (.ref b :: st) (put b pre s A post) Q = M8 38 ls (.ref (b + 5) :: st) (put b pre s A post) Q := w_get (show decode kb8 35 = .ok (.getfield 22, 3) from by decide +kernel) gf_22 put_o rfl
theorem m8_38 : M8 38 [l0, l1, l2, .val (.int v), l4, l5, l6, l7, l8] st H Q = M8 39 [l0, l1, l2, .val (.int v), l4, l5, l6, l7, l8] (.int v :: st) H Q := w_x (show decode kb8 38 = .ok (.iload_n 3, 1) from by decide +kernel) rfl
theorem m8_39 : M8 39 ls st H Q = M8 40 ls (.int 0 :: st) H Q := w_con (show decode kb8 39 = .ok (.iconst 0, 1) from by decide +kernel) rfl (by decide)
theorem m8_40  : M8 40 ls (.int v :: .int j :: .ref (b + 5) :: st) (put b pre s A post) Q = (inB j (A 4) ∧ M8 41 ls st (put b pre s (ou A 4 (setA (A 4) j v)) post) Q) := w_ist (show decode kb8 40 = .ok (.iastore, 1) from by decide +kernel) rfl put_a4 (Nat.zero_le _) rfl put_w4
theorem m8_41 : M8 41 [.val (.ref r), l1, l2, l3, l4, l5, l6, l7, l8] st H Q = M8 42 [.val (.ref r), l1, l2, l3, l4, l5, l6, l7, l8] (.ref r :: st) H Q := w_x (show decode kb8 41 = .ok (.aload_n 0, 1) from by decide +kernel) rfl
theorem m8_42 : M8 42 ls (.ref b :: st) (put b pre s A post) Q = M8 45 ls (.ref (b + 7) :: st) (put b pre s A post) Q := w_get (show decode kb8 42 = .ok (.getfield 28, 3) from by decide +kernel) gf_28 put_o rfl
theorem m8_45 : M8 45 [l0, .val (.int v), l2, l3, l4, l5, l6, l7, l8] st H Q = M8 46 [l0, .val (.int v), l2, l3, l4, l5, l6, l7, l8] (.int v :: st) H Q := w_x (show decode kb8 45 = .ok (.iload_n 1, 1) from by decide +kernel) rfl
theorem m8_46 : M8 46 [l0, l1, l2, .val (.int v), l4, l5, l6, l7, l8] st H Q = M8 47 [l0, l1, l2, .val (.int v), l4, l5, l6, l7, l8] (.int v :: st) H Q := w_x (show decode kb8 46 = .ok (.iload_n 3, 1) from by decide +kernel) rfl
theorem m8_47  : M8 47 ls (.int v :: .int j :: .ref (b + 7) :: st) (put b pre s A post) Q = (inB j (A 6) ∧ M8 48 ls st (put b pre s (ou A 6 (setA (A 6) j v)) post) Q) := w_ist (show decode kb8 47 = .ok (.iastore, 1) from by decide +kernel) rfl put_a6 (Nat.zero_le _) rfl put_w6
theorem m8_48 : M8 48 [l0, .val (.int v), l2, l3, l4, l5, l6, l7, l8] st H Q = M8 51 [l0, .val (.int (v + 1)), l2, l3, l4, l5, l6, l7, l8] st H Q := w_iinc (show decode kb8 48 = .ok (.iinc 1 1, 3) from by decide +kernel) rfl (by decide) rfl
theorem m8_51 : M8 51 [l0, l1, .val (.int v), l3, l4, l5, l6, l7, l8] st H Q = M8 54 [l0, l1, .val (.int (v + 1)), l3, l4, l5, l6, l7, l8] st H Q := w_iinc (show decode kb8 51 = .ok (.iinc 2 1, 3) from by decide +kernel) rfl (by decide) rfl
theorem m8_54 : M8 54 ls st H Q = M8 4 ls st H Q := w_x (show decode kb8 54 = .ok (.goto (-50), 3) from by decide +kernel) rfl
theorem m8_57 : M8 57 ls st H Q = M8 58 ls (.int 0 :: st) H Q := w_con (show decode kb8 57 = .ok (.iconst 0, 1) from by decide +kernel) rfl (by decide)
theorem m8_58i : M8 58 [l0, l1, .val (.int z), l3, l4, l5, l6, l7, l8] ((.int v) :: st) H Q = M8 59 [l0, l1, .val (.int v), l3, l4, l5, l6, l7, l8] st H Q := w_st (i := 2) (p := isI) (show decode kb8 58 = .ok (.istore_n 2, 1) from by decide +kernel) rfl rfl rfl rfl rfl rfl
theorem m8_59 : M8 59 [l0, l1, .val (.int v), l3, l4, l5, l6, l7, l8] st H Q = M8 60 [l0, l1, .val (.int v), l3, l4, l5, l6, l7, l8] (.int v :: st) H Q := w_x (show decode kb8 59 = .ok (.iload_n 2, 1) from by decide +kernel) rfl
theorem m8_60 : M8 60 [l0, .val (.int v), l2, l3, l4, l5, l6, l7, l8] st H Q = M8 61 [l0, .val (.int v), l2, l3, l4, l5, l6, l7, l8] (.int v :: st) H Q := w_x (show decode kb8 60 = .ok (.iload_n 1, 1) from by decide +kernel) rfl
theorem m8_61 : M8 61 ls (.int y :: .int x :: st) H Q = if x < y then M8 64 ls st H Q else M8 237 ls st H Q := w_icmpN (show decode kb8 61 = .ok (.if_icmp .ge 176, 3) from by decide +kernel) (i_ge x y) rfl
theorem m8_64 : M8 64 [l0, l1, .val (.int v), l3, l4, l5, l6, l7, l8] st H Q = M8 65 [l0, l1, .val (.int v), l3, l4, l5, l6, l7, l8] (.int v :: st) H Q := w_x (show decode kb8 64 = .ok (.iload_n 2, 1) from by decide +kernel) rfl
theorem m8_65 : M8 65 ls st H Q = M8 67 ls (.int 65 :: st) H Q := w_con (show decode kb8 65 = .ok (.bipush 65, 2) from by decide +kernel) rfl (by decide)
theorem m8_67 : M8 67 ls (.int y :: .int x :: st) H Q = if x < y then M8 70 ls st H Q else M8 237 ls st H Q := w_icmpN (show decode kb8 67 = .ok (.if_icmp .ge 170, 3) from by decide +kernel) (i_ge x y) rfl
theorem m8_70 : M8 70 [.val (.ref r), l1, l2, l3, l4, l5, l6, l7, l8] st H Q = M8 71 [.val (.ref r), l1, l2, l3, l4, l5, l6, l7, l8] (.ref r :: st) H Q := w_x (show decode kb8 70 = .ok (.aload_n 0, 1) from by decide +kernel) rfl
theorem m8_71 : M8 71 ls (.ref b :: st) (put b pre s A post) Q = M8 74 ls (.ref (b + 7) :: st) (put b pre s A post) Q := w_get (show decode kb8 71 = .ok (.getfield 28, 3) from by decide +kernel) gf_28 put_o rfl
theorem m8_74 : M8 74 [l0, l1, .val (.int v), l3, l4, l5, l6, l7, l8] st H Q = M8 75 [l0, l1, .val (.int v), l3, l4, l5, l6, l7, l8] (.int v :: st) H Q := w_x (show decode kb8 74 = .ok (.iload_n 2, 1) from by decide +kernel) rfl
theorem m8_75  : M8 75 ls (.int j :: .ref (b + 7) :: st) (put b pre s A post) Q = (inB j (A 6) ∧ M8 76 ls (.int (getA (A 6) j) :: st) (put b pre s A post) Q) := w_ild (show decode kb8 75 = .ok (.iaload, 1) from by decide +kernel) rfl put_a6
theorem m8_76u : M8 76 [l0, l1, l2, .unset, l4, l5, l6, l7, l8] ((.int v) :: st) H Q = M8 77 [l0, l1, l2, .val (.int v), l4, l5, l6, l7, l8] st H Q := w_st (i := 3) (p := isI) (show decode kb8 76 = .ok (.istore_n 3, 1) from by decide +kernel) rfl rfl rfl rfl rfl rfl
theorem m8_76i : M8 76 [l0, l1, l2, .val (.int z), l4, l5, l6, l7, l8] ((.int v) :: st) H Q = M8 77 [l0, l1, l2, .val (.int v), l4, l5, l6, l7, l8] st H Q := w_st (i := 3) (p := isI) (show decode kb8 76 = .ok (.istore_n 3, 1) from by decide +kernel) rfl rfl rfl rfl rfl rfl
theorem m8_76r : M8 76 [l0, l1, l2, .val (.ref q), l4, l5, l6, l7, l8] ((.int v) :: st) H Q = M8 77 [l0, l1, l2, .val (.int v), l4, l5, l6, l7, l8] st H Q := w_st (i := 3) (p := isI) (show decode kb8 76 = .ok (.istore_n 3, 1) from by decide +kernel) rfl rfl rfl rfl rfl rfl
theorem m8_76g (h : okS l3) : M8 76 [l0, l1, l2, l3, l4, l5, l6, l7, l8] ((.int v) :: st) H Q = M8 77 [l0, l1, l2, .val (.int v), l4, l5, l6, l7, l8] st H Q := by rcases h with rfl | ⟨z, rfl⟩ <;> first | exact m8_76u | exact m8_76i
theorem m8_77 : M8 77 [l0, l1, .val (.int v), l3, l4, l5, l6, l7, l8] st H Q = M8 80 [l0, l1, .val (.int (v + 1)), l3, l4, l5, l6, l7, l8] st H Q := w_iinc (show decode kb8 77 = .ok (.iinc 2 1, 3) from by decide +kernel) rfl (by decide) rfl
theorem m8_80 : M8 80 [l0, l1, l2, .val (.int v), l4, l5, l6, l7, l8] st H Q = M8 81 [l0, l1, l2, .val (.int v), l4, l5, l6, l7, l8] (.int v :: st) H Q := w_x (show decode kb8 80 = .ok (.iload_n 3, 1) from by decide +kernel) rfl
theorem m8_81 : M8 81 ls (.int x :: st) H Q = if 0 < x then M8 84 ls st H Q else M8 59 ls st H Q := w_ifN (show decode kb8 81 = .ok (.ifCond .le (-22), 3) from by decide +kernel) (z_le x) rfl
theorem m8_84 : M8 84 [l0, l1, l2, .val (.int v), l4, l5, l6, l7, l8] st H Q = M8 85 [l0, l1, l2, .val (.int v), l4, l5, l6, l7, l8] (.int v :: st) H Q := w_x (show decode kb8 84 = .ok (.iload_n 3, 1) from by decide +kernel) rfl
theorem m8_85 : M8 85 ls st H Q = M8 87 ls (.int 65 :: st) H Q := w_con (show decode kb8 85 = .ok (.bipush 65, 2) from by decide +kernel) rfl (by decide)
theorem m8_87 : M8 87 ls (.int y :: .int x :: st) H Q = if x < y then M8 93 ls st H Q else M8 90 ls st H Q := w_icmp (show decode kb8 87 = .ok (.if_icmp .lt 6, 3) from by decide +kernel) (i_lt x y) rfl
theorem m8_90 : M8 90 ls st H Q = M8 59 ls st H Q := w_x (show decode kb8 90 = .ok (.goto (-31), 3) from by decide +kernel) rfl
theorem m8_93 : M8 93 [.val (.ref r), l1, l2, l3, l4, l5, l6, l7, l8] st H Q = M8 94 [.val (.ref r), l1, l2, l3, l4, l5, l6, l7, l8] (.ref r :: st) H Q := w_x (show decode kb8 93 = .ok (.aload_n 0, 1) from by decide +kernel) rfl
theorem m8_94 : M8 94 ls (.ref b :: st) (put b pre s A post) Q = M8 97 ls (.ref (b + 5) :: st) (put b pre s A post) Q := w_get (show decode kb8 94 = .ok (.getfield 22, 3) from by decide +kernel) gf_22 put_o rfl
theorem m8_97 : M8 97 [l0, l1, l2, .val (.int v), l4, l5, l6, l7, l8] st H Q = M8 98 [l0, l1, l2, .val (.int v), l4, l5, l6, l7, l8] (.int v :: st) H Q := w_x (show decode kb8 97 = .ok (.iload_n 3, 1) from by decide +kernel) rfl
theorem m8_98  : M8 98 ls (.int j :: .ref (b + 5) :: st) (put b pre s A post) Q = (inB j (A 4) ∧ M8 99 ls (.int (getA (A 4) j) :: st) (put b pre s A post) Q) := w_ild (show decode kb8 98 = .ok (.iaload, 1) from by decide +kernel) rfl put_a4
theorem m8_99u : M8 99 [l0, l1, l2, l3, .unset, l5, l6, l7, l8] ((.int v) :: st) H Q = M8 101 [l0, l1, l2, l3, .val (.int v), l5, l6, l7, l8] st H Q := w_st (i := 4) (p := isI) (show decode kb8 99 = .ok (.istore 4, 2) from by decide +kernel) rfl rfl rfl rfl rfl rfl
theorem m8_99i : M8 99 [l0, l1, l2, l3, .val (.int z), l5, l6, l7, l8] ((.int v) :: st) H Q = M8 101 [l0, l1, l2, l3, .val (.int v), l5, l6, l7, l8] st H Q := w_st (i := 4) (p := isI) (show decode kb8 99 = .ok (.istore 4, 2) from by decide +kernel) rfl rfl rfl rfl rfl rfl
theorem m8_99r : M8 99 [l0, l1, l2, l3, .val (.ref q), l5, l6, l7, l8] ((.int v) :: st) H Q = M8 101 [l0, l1, l2, l3, .val (.int v), l5, l6, l7, l8] st H Q := w_st (i := 4) (p := isI) (show decode kb8 99 = .ok (.istore 4, 2) from by decide +kernel) rfl rfl rfl rfl rfl rfl
theorem m8_99g (h : okS l4) : M8 99 [l0, l1, l2, l3, l4, l5, l6, l7, l8] ((.int v) :: st) H Q = M8 101 [l0, l1, l2, l3, .val (.int v), l5, l6, l7, l8] st H Q := by rcases h with rfl | ⟨z, rfl⟩ <;> first | exact m8_99u | exact m8_99i
theorem m8_101 : M8 101 [l0, l1, l2, l3, .val (.int v), l5, l6, l7, l8] st H Q = M8 103 [l0, l1, l2, l3, .val (.int v), l5, l6, l7, l8] (.int v :: st) H Q := w_x (show decode kb8 101 = .ok (.iload 4, 2) from by decide +kernel) rfl
theorem m8_103 : M8 103 ls (.int x :: st) H Q = if x < 0 then M8 113 ls st H Q else M8 106 ls st H Q := w_if (show decode kb8 103 = .ok (.ifCond .lt 10, 3) from by decide +kernel) (z_lt x) rfl
theorem m8_106 : M8 106 [l0, l1, l2, l3, .val (.int v), l5, l6, l7, l8] st H Q = M8 108 [l0, l1, l2, l3, .val (.int v), l5, l6, l7, l8] (.int v :: st) H Q := w_x (show decode kb8 106 = .ok (.iload 4, 2) from by decide +kernel) rfl
theorem m8_108 : M8 108 ls st H Q = M8 110 ls (.int 65 :: st) H Q := w_con (show decode kb8 108 = .ok (.bipush 65, 2) from by decide +kernel) rfl (by decide)
theorem m8_110 : M8 110 ls (.int y :: .int x :: st) H Q = if x < y then M8 116 ls st H Q else M8 113 ls st H Q := w_icmp (show decode kb8 110 = .ok (.if_icmp .lt 6, 3) from by decide +kernel) (i_lt x y) rfl
theorem m8_113 : M8 113 ls st H Q = M8 114 ls (.int 0 :: st) H Q := w_con (show decode kb8 113 = .ok (.iconst 0, 1) from by decide +kernel) rfl (by decide)
theorem m8_114i : M8 114 [l0, l1, l2, l3, .val (.int z), l5, l6, l7, l8] ((.int v) :: st) H Q = M8 116 [l0, l1, l2, l3, .val (.int v), l5, l6, l7, l8] st H Q := w_st (i := 4) (p := isI) (show decode kb8 114 = .ok (.istore 4, 2) from by decide +kernel) rfl rfl rfl rfl rfl rfl
theorem m8_116 : M8 116 [.val (.ref r), l1, l2, l3, l4, l5, l6, l7, l8] st H Q = M8 117 [.val (.ref r), l1, l2, l3, l4, l5, l6, l7, l8] (.ref r :: st) H Q := w_x (show decode kb8 116 = .ok (.aload_n 0, 1) from by decide +kernel) rfl
theorem m8_117 : M8 117 ls (.ref b :: st) (put b pre s A post) Q = M8 120 ls (.ref (b + 6) :: st) (put b pre s A post) Q := w_get (show decode kb8 117 = .ok (.getfield 25, 3) from by decide +kernel) gf_25 put_o rfl
theorem m8_120 : M8 120 [l0, l1, l2, .val (.int v), l4, l5, l6, l7, l8] st H Q = M8 121 [l0, l1, l2, .val (.int v), l4, l5, l6, l7, l8] (.int v :: st) H Q := w_x (show decode kb8 120 = .ok (.iload_n 3, 1) from by decide +kernel) rfl
theorem m8_121 : M8 121 ls (.int x :: .ref q :: st) H Q = M8 122 ls (.int x :: .ref q :: .int x :: .ref q :: st) H Q := w_x (show decode kb8 121 = .ok (.dup2, 1) from by decide +kernel) rfl
theorem m8_122  : M8 122 ls (.int j :: .ref (b + 6) :: st) (put b pre s A post) Q = (inB j (A 5) ∧ M8 123 ls (.int (getA (A 5) j) :: st) (put b pre s A post) Q) := w_ild (show decode kb8 122 = .ok (.iaload, 1) from by decide +kernel) rfl put_a5
theorem m8_123 : M8 123 [.val (.ref r), l1, l2, l3, l4, l5, l6, l7, l8] st H Q = M8 124 [.val (.ref r), l1, l2, l3, l4, l5, l6, l7, l8] (.ref r :: st) H Q := w_x (show decode kb8 123 = .ok (.aload_n 0, 1) from by decide +kernel) rfl
theorem m8_124 : M8 124 ls (.ref b :: st) (put b pre s A post) Q = M8 127 ls (.ref (b + 6) :: st) (put b pre s A post) Q := w_get (show decode kb8 124 = .ok (.getfield 25, 3) from by decide +kernel) gf_25 put_o rfl
theorem m8_127 : M8 127 [l0, l1, l2, l3, .val (.int v), l5, l6, l7, l8] st H Q = M8 129 [l0, l1, l2, l3, .val (.int v), l5, l6, l7, l8] (.int v :: st) H Q := w_x (show decode kb8 127 = .ok (.iload 4, 2) from by decide +kernel) rfl
theorem m8_129  : M8 129 ls (.int j :: .ref (b + 6) :: st) (put b pre s A post) Q = (inB j (A 5) ∧ M8 130 ls (.int (getA (A 5) j) :: st) (put b pre s A post) Q) := w_ild (show decode kb8 129 = .ok (.iaload, 1) from by decide +kernel) rfl put_a5
theorem m8_130 : M8 130 ls (.int y :: .int x :: st) H Q = M8 131 ls (.int (x ||| y) :: st) H Q := w_x (show decode kb8 130 = .ok (.ior, 1) from by decide +kernel) rfl
theorem m8_131  : M8 131 ls (.int v :: .int j :: .ref (b + 6) :: st) (put b pre s A post) Q = (inB j (A 5) ∧ M8 132 ls st (put b pre s (ou A 5 (setA (A 5) j v)) post) Q) := w_ist (show decode kb8 131 = .ok (.iastore, 1) from by decide +kernel) rfl put_a5 (Nat.zero_le _) rfl put_w5
theorem m8_132 : M8 132 ls st H Q = M8 133 ls (.int 0 :: st) H Q := w_con (show decode kb8 132 = .ok (.iconst 0, 1) from by decide +kernel) rfl (by decide)
theorem m8_133u : M8 133 [l0, l1, l2, l3, l4, .unset, l6, l7, l8] ((.int v) :: st) H Q = M8 135 [l0, l1, l2, l3, l4, .val (.int v), l6, l7, l8] st H Q := w_st (i := 5) (p := isI) (show decode kb8 133 = .ok (.istore 5, 2) from by decide +kernel) rfl rfl rfl rfl rfl rfl
theorem m8_133i : M8 133 [l0, l1, l2, l3, l4, .val (.int z), l6, l7, l8] ((.int v) :: st) H Q = M8 135 [l0, l1, l2, l3, l4, .val (.int v), l6, l7, l8] st H Q := w_st (i := 5) (p := isI) (show decode kb8 133 = .ok (.istore 5, 2) from by decide +kernel) rfl rfl rfl rfl rfl rfl
theorem m8_133r : M8 133 [l0, l1, l2, l3, l4, .val (.ref q), l6, l7, l8] ((.int v) :: st) H Q = M8 135 [l0, l1, l2, l3, l4, .val (.int v), l6, l7, l8] st H Q := w_st (i := 5) (p := isI) (show decode kb8 133 = .ok (.istore 5, 2) from by decide +kernel) rfl rfl rfl rfl rfl rfl
theorem m8_133g (h : okS l5) : M8 133 [l0, l1, l2, l3, l4, l5, l6, l7, l8] ((.int v) :: st) H Q = M8 135 [l0, l1, l2, l3, l4, .val (.int v), l6, l7, l8] st H Q := by rcases h with rfl | ⟨z, rfl⟩ <;> first | exact m8_133u | exact m8_133i
theorem m8_135 : M8 135 [l0, l1, l2, l3, l4, .val (.int v), l6, l7, l8] st H Q = M8 137 [l0, l1, l2, l3, l4, .val (.int v), l6, l7, l8] (.int v :: st) H Q := w_x (show decode kb8 135 = .ok (.iload 5, 2) from by decide +kernel) rfl
theorem m8_137 : M8 137 ls st H Q = M8 140 ls (.int 256 :: st) H Q := w_con (show decode kb8 137 = .ok (.sipush 256, 3) from by decide +kernel) rfl (by decide)
theorem m8_140 : M8 140 ls (.int y :: .int x :: st) H Q = if x < y then M8 143 ls st H Q else M8 234 ls st H Q := w_icmpN (show decode kb8 140 = .ok (.if_icmp .ge 94, 3) from by decide +kernel) (i_ge x y) rfl
theorem m8_143 : M8 143 [l0, l1, l2, .val (.int v), l4, l5, l6, l7, l8] st H Q = M8 144 [l0, l1, l2, .val (.int v), l4, l5, l6, l7, l8] (.int v :: st) H Q := w_x (show decode kb8 143 = .ok (.iload_n 3, 1) from by decide +kernel) rfl
theorem m8_144 : M8 144 ls st H Q = M8 147 ls (.int 256 :: st) H Q := w_con (show decode kb8 144 = .ok (.sipush 256, 3) from by decide +kernel) rfl (by decide)
theorem m8_147 : M8 147 ls (.int y :: .int x :: st) H Q = M8 148 ls (.int (x * y) :: st) H Q := w_x (show decode kb8 147 = .ok (.imul, 1) from by decide +kernel) rfl
theorem m8_148 : M8 148 [l0, l1, l2, l3, l4, .val (.int v), l6, l7, l8] st H Q = M8 150 [l0, l1, l2, l3, l4, .val (.int v), l6, l7, l8] (.int v :: st) H Q := w_x (show decode kb8 148 = .ok (.iload 5, 2) from by decide +kernel) rfl
theorem m8_150 : M8 150 ls (.int y :: .int x :: st) H Q = M8 151 ls (.int (x + y) :: st) H Q := w_x (show decode kb8 150 = .ok (.iadd, 1) from by decide +kernel) rfl
theorem m8_151u : M8 151 [l0, l1, l2, l3, l4, l5, .unset, l7, l8] ((.int v) :: st) H Q = M8 153 [l0, l1, l2, l3, l4, l5, .val (.int v), l7, l8] st H Q := w_st (i := 6) (p := isI) (show decode kb8 151 = .ok (.istore 6, 2) from by decide +kernel) rfl rfl rfl rfl rfl rfl
theorem m8_151i : M8 151 [l0, l1, l2, l3, l4, l5, .val (.int z), l7, l8] ((.int v) :: st) H Q = M8 153 [l0, l1, l2, l3, l4, l5, .val (.int v), l7, l8] st H Q := w_st (i := 6) (p := isI) (show decode kb8 151 = .ok (.istore 6, 2) from by decide +kernel) rfl rfl rfl rfl rfl rfl
theorem m8_151r : M8 151 [l0, l1, l2, l3, l4, l5, .val (.ref q), l7, l8] ((.int v) :: st) H Q = M8 153 [l0, l1, l2, l3, l4, l5, .val (.int v), l7, l8] st H Q := w_st (i := 6) (p := isI) (show decode kb8 151 = .ok (.istore 6, 2) from by decide +kernel) rfl rfl rfl rfl rfl rfl
theorem m8_151g (h : okS l6) : M8 151 [l0, l1, l2, l3, l4, l5, l6, l7, l8] ((.int v) :: st) H Q = M8 153 [l0, l1, l2, l3, l4, l5, .val (.int v), l7, l8] st H Q := by rcases h with rfl | ⟨z, rfl⟩ <;> first | exact m8_151u | exact m8_151i
theorem m8_153 : M8 153 [.val (.ref r), l1, l2, l3, l4, l5, l6, l7, l8] st H Q = M8 154 [.val (.ref r), l1, l2, l3, l4, l5, l6, l7, l8] (.ref r :: st) H Q := w_x (show decode kb8 153 = .ok (.aload_n 0, 1) from by decide +kernel) rfl
theorem m8_154 : M8 154 ls (.ref b :: st) (put b pre s A post) Q = M8 157 ls (.ref (b + 4) :: st) (put b pre s A post) Q := w_get (show decode kb8 154 = .ok (.getfield 19, 3) from by decide +kernel) gf_19 put_o rfl
theorem m8_157 : M8 157 [l0, l1, l2, l3, .val (.int v), l5, l6, l7, l8] st H Q = M8 159 [l0, l1, l2, l3, .val (.int v), l5, l6, l7, l8] (.int v :: st) H Q := w_x (show decode kb8 157 = .ok (.iload 4, 2) from by decide +kernel) rfl
theorem m8_159 : M8 159 ls st H Q = M8 162 ls (.int 256 :: st) H Q := w_con (show decode kb8 159 = .ok (.sipush 256, 3) from by decide +kernel) rfl (by decide)
theorem m8_162 : M8 162 ls (.int y :: .int x :: st) H Q = M8 163 ls (.int (x * y) :: st) H Q := w_x (show decode kb8 162 = .ok (.imul, 1) from by decide +kernel) rfl
theorem m8_163 : M8 163 [l0, l1, l2, l3, l4, .val (.int v), l6, l7, l8] st H Q = M8 165 [l0, l1, l2, l3, l4, .val (.int v), l6, l7, l8] (.int v :: st) H Q := w_x (show decode kb8 163 = .ok (.iload 5, 2) from by decide +kernel) rfl
theorem m8_165 : M8 165 ls (.int y :: .int x :: st) H Q = M8 166 ls (.int (x + y) :: st) H Q := w_x (show decode kb8 165 = .ok (.iadd, 1) from by decide +kernel) rfl
theorem m8_166  : M8 166 ls (.int j :: .ref (b + 4) :: st) (put b pre s A post) Q = (inB j (A 3) ∧ M8 167 ls (.int (getA (A 3) j) :: st) (put b pre s A post) Q) := w_ild (show decode kb8 166 = .ok (.iaload, 1) from by decide +kernel) rfl put_a3
theorem m8_167u : M8 167 [l0, l1, l2, l3, l4, l5, l6, .unset, l8] ((.int v) :: st) H Q = M8 169 [l0, l1, l2, l3, l4, l5, l6, .val (.int v), l8] st H Q := w_st (i := 7) (p := isI) (show decode kb8 167 = .ok (.istore 7, 2) from by decide +kernel) rfl rfl rfl rfl rfl rfl
theorem m8_167i : M8 167 [l0, l1, l2, l3, l4, l5, l6, .val (.int z), l8] ((.int v) :: st) H Q = M8 169 [l0, l1, l2, l3, l4, l5, l6, .val (.int v), l8] st H Q := w_st (i := 7) (p := isI) (show decode kb8 167 = .ok (.istore 7, 2) from by decide +kernel) rfl rfl rfl rfl rfl rfl
theorem m8_167r : M8 167 [l0, l1, l2, l3, l4, l5, l6, .val (.ref q), l8] ((.int v) :: st) H Q = M8 169 [l0, l1, l2, l3, l4, l5, l6, .val (.int v), l8] st H Q := w_st (i := 7) (p := isI) (show decode kb8 167 = .ok (.istore 7, 2) from by decide +kernel) rfl rfl rfl rfl rfl rfl
theorem m8_167g (h : okS l7) : M8 167 [l0, l1, l2, l3, l4, l5, l6, l7, l8] ((.int v) :: st) H Q = M8 169 [l0, l1, l2, l3, l4, l5, l6, .val (.int v), l8] st H Q := by rcases h with rfl | ⟨z, rfl⟩ <;> first | exact m8_167u | exact m8_167i
theorem m8_169 : M8 169 [.val (.ref r), l1, l2, l3, l4, l5, l6, l7, l8] st H Q = M8 170 [.val (.ref r), l1, l2, l3, l4, l5, l6, l7, l8] (.ref r :: st) H Q := w_x (show decode kb8 169 = .ok (.aload_n 0, 1) from by decide +kernel) rfl
theorem m8_170 : M8 170 ls (.ref b :: st) (put b pre s A post) Q = M8 173 ls (.ref (b + 4) :: st) (put b pre s A post) Q := w_get (show decode kb8 170 = .ok (.getfield 19, 3) from by decide +kernel) gf_19 put_o rfl
theorem m8_173 : M8 173 [l0, l1, l2, l3, l4, l5, .val (.int v), l7, l8] st H Q = M8 175 [l0, l1, l2, l3, l4, l5, .val (.int v), l7, l8] (.int v :: st) H Q := w_x (show decode kb8 173 = .ok (.iload 6, 2) from by decide +kernel) rfl
theorem m8_175  : M8 175 ls (.int j :: .ref (b + 4) :: st) (put b pre s A post) Q = (inB j (A 3) ∧ M8 176 ls (.int (getA (A 3) j) :: st) (put b pre s A post) Q) := w_ild (show decode kb8 175 = .ok (.iaload, 1) from by decide +kernel) rfl put_a3
theorem m8_176u : M8 176 [l0, l1, l2, l3, l4, l5, l6, l7, .unset] ((.int v) :: st) H Q = M8 178 [l0, l1, l2, l3, l4, l5, l6, l7, .val (.int v)] st H Q := w_st (i := 8) (p := isI) (show decode kb8 176 = .ok (.istore 8, 2) from by decide +kernel) rfl rfl rfl rfl rfl rfl
theorem m8_176i : M8 176 [l0, l1, l2, l3, l4, l5, l6, l7, .val (.int z)] ((.int v) :: st) H Q = M8 178 [l0, l1, l2, l3, l4, l5, l6, l7, .val (.int v)] st H Q := w_st (i := 8) (p := isI) (show decode kb8 176 = .ok (.istore 8, 2) from by decide +kernel) rfl rfl rfl rfl rfl rfl
theorem m8_176r : M8 176 [l0, l1, l2, l3, l4, l5, l6, l7, .val (.ref q)] ((.int v) :: st) H Q = M8 178 [l0, l1, l2, l3, l4, l5, l6, l7, .val (.int v)] st H Q := w_st (i := 8) (p := isI) (show decode kb8 176 = .ok (.istore 8, 2) from by decide +kernel) rfl rfl rfl rfl rfl rfl
theorem m8_176g (h : okS l8) : M8 176 [l0, l1, l2, l3, l4, l5, l6, l7, l8] ((.int v) :: st) H Q = M8 178 [l0, l1, l2, l3, l4, l5, l6, l7, .val (.int v)] st H Q := by rcases h with rfl | ⟨z, rfl⟩ <;> first | exact m8_176u | exact m8_176i
theorem m8_178 : M8 178 [l0, l1, l2, l3, l4, l5, l6, l7, .val (.int v)] st H Q = M8 180 [l0, l1, l2, l3, l4, l5, l6, l7, .val (.int v)] (.int v :: st) H Q := w_x (show decode kb8 178 = .ok (.iload 8, 2) from by decide +kernel) rfl
theorem m8_180 : M8 180 ls (.int x :: st) H Q = if 0 < x then M8 183 ls st H Q else M8 219 ls st H Q := w_ifN (show decode kb8 180 = .ok (.ifCond .le 39, 3) from by decide +kernel) (z_le x) rfl
theorem m8_183 : M8 183 [l0, l1, l2, l3, l4, l5, l6, l7, .val (.int v)] st H Q = M8 185 [l0, l1, l2, l3, l4, l5, l6, l7, .val (.int v)] (.int v :: st) H Q := w_x (show decode kb8 183 = .ok (.iload 8, 2) from by decide +kernel) rfl
theorem m8_185 : M8 185 ls st H Q = M8 187 ls (.int 65 :: st) H Q := w_con (show decode kb8 185 = .ok (.bipush 65, 2) from by decide +kernel) rfl (by decide)
theorem m8_187 : M8 187 ls (.int y :: .int x :: st) H Q = if x < y then M8 190 ls st H Q else M8 219 ls st H Q := w_icmpN (show decode kb8 187 = .ok (.if_icmp .ge 32, 3) from by decide +kernel) (i_ge x y) rfl
theorem m8_190 : M8 190 [.val (.ref r), l1, l2, l3, l4, l5, l6, l7, l8] st H Q = M8 191 [.val (.ref r), l1, l2, l3, l4, l5, l6, l7, l8] (.ref r :: st) H Q := w_x (show decode kb8 190 = .ok (.aload_n 0, 1) from by decide +kernel) rfl
theorem m8_191 : M8 191 ls (.ref b :: st) (put b pre s A post) Q = M8 194 ls (.ref (b + 5) :: st) (put b pre s A post) Q := w_get (show decode kb8 191 = .ok (.getfield 22, 3) from by decide +kernel) gf_22 put_o rfl
theorem m8_194 : M8 194 [l0, l1, l2, l3, l4, l5, l6, l7, .val (.int v)] st H Q = M8 196 [l0, l1, l2, l3, l4, l5, l6, l7, .val (.int v)] (.int v :: st) H Q := w_x (show decode kb8 194 = .ok (.iload 8, 2) from by decide +kernel) rfl
theorem m8_196 : M8 196 [l0, l1, l2, l3, l4, l5, l6, .val (.int v), l8] st H Q = M8 198 [l0, l1, l2, l3, l4, l5, l6, .val (.int v), l8] (.int v :: st) H Q := w_x (show decode kb8 196 = .ok (.iload 7, 2) from by decide +kernel) rfl
theorem m8_198  : M8 198 ls (.int v :: .int j :: .ref (b + 5) :: st) (put b pre s A post) Q = (inB j (A 4) ∧ M8 199 ls st (put b pre s (ou A 4 (setA (A 4) j v)) post) Q) := w_ist (show decode kb8 198 = .ok (.iastore, 1) from by decide +kernel) rfl put_a4 (Nat.zero_le _) rfl put_w4
theorem m8_199 : M8 199 [l0, .val (.int v), l2, l3, l4, l5, l6, l7, l8] st H Q = M8 200 [l0, .val (.int v), l2, l3, l4, l5, l6, l7, l8] (.int v :: st) H Q := w_x (show decode kb8 199 = .ok (.iload_n 1, 1) from by decide +kernel) rfl
theorem m8_200 : M8 200 ls st H Q = M8 202 ls (.int 65 :: st) H Q := w_con (show decode kb8 200 = .ok (.bipush 65, 2) from by decide +kernel) rfl (by decide)
theorem m8_202 : M8 202 ls (.int y :: .int x :: st) H Q = if x < y then M8 205 ls st H Q else M8 228 ls st H Q := w_icmpN (show decode kb8 202 = .ok (.if_icmp .ge 26, 3) from by decide +kernel) (i_ge x y) rfl
theorem m8_205 : M8 205 [.val (.ref r), l1, l2, l3, l4, l5, l6, l7, l8] st H Q = M8 206 [.val (.ref r), l1, l2, l3, l4, l5, l6, l7, l8] (.ref r :: st) H Q := w_x (show decode kb8 205 = .ok (.aload_n 0, 1) from by decide +kernel) rfl
theorem m8_206 : M8 206 ls (.ref b :: st) (put b pre s A post) Q = M8 209 ls (.ref (b + 7) :: st) (put b pre s A post) Q := w_get (show decode kb8 206 = .ok (.getfield 28, 3) from by decide +kernel) gf_28 put_o rfl
theorem m8_209 : M8 209 [l0, .val (.int v), l2, l3, l4, l5, l6, l7, l8] st H Q = M8 210 [l0, .val (.int v), l2, l3, l4, l5, l6, l7, l8] (.int v :: st) H Q := w_x (show decode kb8 209 = .ok (.iload_n 1, 1) from by decide +kernel) rfl
theorem m8_210 : M8 210 [l0, l1, l2, l3, l4, l5, l6, l7, .val (.int v)] st H Q = M8 212 [l0, l1, l2, l3, l4, l5, l6, l7, .val (.int v)] (.int v :: st) H Q := w_x (show decode kb8 210 = .ok (.iload 8, 2) from by decide +kernel) rfl
theorem m8_212  : M8 212 ls (.int v :: .int j :: .ref (b + 7) :: st) (put b pre s A post) Q = (inB j (A 6) ∧ M8 213 ls st (put b pre s (ou A 6 (setA (A 6) j v)) post) Q) := w_ist (show decode kb8 212 = .ok (.iastore, 1) from by decide +kernel) rfl put_a6 (Nat.zero_le _) rfl put_w6
theorem m8_213 : M8 213 [l0, .val (.int v), l2, l3, l4, l5, l6, l7, l8] st H Q = M8 216 [l0, .val (.int (v + 1)), l2, l3, l4, l5, l6, l7, l8] st H Q := w_iinc (show decode kb8 213 = .ok (.iinc 1 1, 3) from by decide +kernel) rfl (by decide) rfl
theorem m8_216 : M8 216 ls st H Q = M8 228 ls st H Q := w_x (show decode kb8 216 = .ok (.goto 12, 3) from by decide +kernel) rfl
theorem m8_219 : M8 219 [.val (.ref r), l1, l2, l3, l4, l5, l6, l7, l8] st H Q = M8 220 [.val (.ref r), l1, l2, l3, l4, l5, l6, l7, l8] (.ref r :: st) H Q := w_x (show decode kb8 219 = .ok (.aload_n 0, 1) from by decide +kernel) rfl
theorem m8_220 : M8 220 ls (.ref b :: st) (put b pre s A post) Q = M8 223 ls (.ref (b + 4) :: st) (put b pre s A post) Q := w_get (show decode kb8 220 = .ok (.getfield 19, 3) from by decide +kernel) gf_19 put_o rfl
theorem m8_223 : M8 223 [l0, l1, l2, l3, l4, l5, .val (.int v), l7, l8] st H Q = M8 225 [l0, l1, l2, l3, l4, l5, .val (.int v), l7, l8] (.int v :: st) H Q := w_x (show decode kb8 223 = .ok (.iload 6, 2) from by decide +kernel) rfl
theorem m8_225 : M8 225 [l0, l1, l2, l3, l4, l5, l6, .val (.int v), l8] st H Q = M8 227 [l0, l1, l2, l3, l4, l5, l6, .val (.int v), l8] (.int v :: st) H Q := w_x (show decode kb8 225 = .ok (.iload 7, 2) from by decide +kernel) rfl
theorem m8_227  : M8 227 ls (.int v :: .int j :: .ref (b + 4) :: st) (put b pre s A post) Q = (inB j (A 3) ∧ M8 228 ls st (put b pre s (ou A 3 (setA (A 3) j v)) post) Q) := w_ist (show decode kb8 227 = .ok (.iastore, 1) from by decide +kernel) rfl put_a3 (Nat.zero_le _) rfl put_w3
theorem m8_228 : M8 228 [l0, l1, l2, l3, l4, .val (.int v), l6, l7, l8] st H Q = M8 231 [l0, l1, l2, l3, l4, .val (.int (v + 1)), l6, l7, l8] st H Q := w_iinc (show decode kb8 228 = .ok (.iinc 5 1, 3) from by decide +kernel) rfl (by decide) rfl
theorem m8_231 : M8 231 ls st H Q = M8 135 ls st H Q := w_x (show decode kb8 231 = .ok (.goto (-96), 3) from by decide +kernel) rfl
theorem m8_234 : M8 234 ls st H Q = M8 59 ls st H Q := w_x (show decode kb8 234 = .ok (.goto (-175), 3) from by decide +kernel) rfl
theorem m8_237 : M8 237 ls [] H Q = Q none H := w_vret (show decode kb8 237 = .ok (.return_, 1) from by decide +kernel) rfl
theorem m9_0 : M9 0 [.val (.ref r), l1] st H Q = M9 1 [.val (.ref r), l1] (.ref r :: st) H Q := w_x (show decode kb9 0 = .ok (.aload_n 0, 1) from by decide +kernel) rfl
theorem m9_1 : M9 1 ls (.ref b :: st) (put b pre s A post) Q = M9 4 ls (.int (s 1) :: st) (put b pre s A post) Q := w_get (show decode kb9 1 = .ok (.getfield 51, 3) from by decide +kernel) gf_51 put_o rfl
theorem m9_4 : M9 4 ls (.int x :: st) H Q = if x = 0 then M9 7 ls st H Q else M9 9 ls st H Q := w_ifN (show decode kb9 4 = .ok (.ifCond .ne 5, 3) from by decide +kernel) (z_ne x) rfl
theorem m9_7 : M9 7 ls st H Q = M9 8 ls (.int (-1) :: st) H Q := w_con (show decode kb9 7 = .ok (.iconst (-1), 1) from by decide +kernel) rfl (by decide)
theorem m9_8 : M9 8 ls (.int z :: st) H Q = Q (some (.int z)) H := w_iret (show decode kb9 8 = .ok (.ireturn, 1) from by decide +kernel) rfl
theorem m9_9 : M9 9 [.val (.ref r), l1] st H Q = M9 10 [.val (.ref r), l1] (.ref r :: st) H Q := w_x (show decode kb9 9 = .ok (.aload_n 0, 1) from by decide +kernel) rfl
theorem m9_10 : M9 10 ls (.ref b :: st) (put b pre s A post) Q = M9 13 ls (.int (s 13) :: st) (put b pre s A post) Q := w_get (show decode kb9 10 = .ok (.getfield 88, 3) from by decide +kernel) gf_88 put_o rfl
theorem m9_13 : M9 13 ls (.int x :: st) H Q = if x = 0 then M9 18 ls st H Q else M9 16 ls st H Q := w_if (show decode kb9 13 = .ok (.ifCond .eq 5, 3) from by decide +kernel) (z_eq x) rfl
theorem m9_16 : M9 16 ls st H Q = M9 17 ls (.int (-1) :: st) H Q := w_con (show decode kb9 16 = .ok (.iconst (-1), 1) from by decide +kernel) rfl (by decide)
theorem m9_17 : M9 17 ls (.int z :: st) H Q = Q (some (.int z)) H := w_iret (show decode kb9 17 = .ok (.ireturn, 1) from by decide +kernel) rfl
theorem m9_18 : M9 18 [.val (.ref r), l1] st H Q = M9 19 [.val (.ref r), l1] (.ref r :: st) H Q := w_x (show decode kb9 18 = .ok (.aload_n 0, 1) from by decide +kernel) rfl
theorem m9_19 : M9 19 [l0, .val (.int v)] st H Q = M9 20 [l0, .val (.int v)] (.int v :: st) H Q := w_x (show decode kb9 19 = .ok (.iload_n 1, 1) from by decide +kernel) rfl
theorem cr9_117 : vR tables_1 dn y9 117 = some (true, y10, prog_1_method_23_code, 2, (some .boolean), 1, 0) := pR_of (cR_of (by decide +kernel) rc_10 dn_10 dn_9 (sig := ⟨[.int], some .boolean⟩) (by decide +kernel) (by decide +kernel) rfl rfl) (by decide +kernel) (by decide +kernel)
theorem m9_20 (a0 : Int32) : M9 20 ls [.int a0, .ref b] (put b pre s A post) Q = M10 0 [.val (.ref b), .val (.int a0)] [] (put b pre s A post) (fun v H1 => M9 23 ls (v.toList ++ []) H1 Q) := w_virt (as := [.int a0]) (rest := []) (a := b) (show decode kb9 20 = .ok (.invokevirtual 117, 3) from by decide +kernel) cr9_117 put_o rfl rfl (Nat.le_of_ble_eq_true rfl) (by show 2 ≤ 2; omega) rfl
theorem m9_23 : M9 23 ls (.int x :: st) H Q = if x = 0 then M9 26 ls st H Q else M9 29 ls st H Q := w_ifN (show decode kb9 23 = .ok (.ifCond .ne 6, 3) from by decide +kernel) (z_ne x) rfl
theorem m9_26 : M9 26 ls st H Q = M9 28 ls (.int (-5) :: st) H Q := w_con (show decode kb9 26 = .ok (.bipush (-5), 2) from by decide +kernel) rfl (by decide)
theorem m9_28 : M9 28 ls (.int z :: st) H Q = Q (some (.int z)) H := w_iret (show decode kb9 28 = .ok (.ireturn, 1) from by decide +kernel) rfl
theorem m9_29 : M9 29 [.val (.ref r), l1] st H Q = M9 30 [.val (.ref r), l1] (.ref r :: st) H Q := w_x (show decode kb9 29 = .ok (.aload_n 0, 1) from by decide +kernel) rfl
theorem m9_30 : M9 30 ls st H Q = M9 31 ls (.int 1 :: st) H Q := w_con (show decode kb9 30 = .ok (.iconst 1, 1) from by decide +kernel) rfl (by decide)
theorem pf9_88 : pfR tables_1 y9.cls y9.name 88 = some ("StreamSigScanner", 25, .boolean) := by decide +kernel
theorem m9_31 : M9 31 ls (.int v :: .ref b :: st) (put b pre s A post) Q = M9 34 ls st (put b pre (ou s 13 (nar .boolean v)) A post) Q := w_put (show decode kb9 31 = .ok (.putfield 88, 3) from by decide +kernel) pf9_88 put_o (Nat.zero_le _) (by show 25 < 29; omega) rfl put_s13
theorem m9_34 : M9 34 [.val (.ref r), l1] st H Q = M9 35 [.val (.ref r), l1] (.ref r :: st) H Q := w_x (show decode kb9 34 = .ok (.aload_n 0, 1) from by decide +kernel) rfl
theorem m9_35 : M9 35 [l0, .val (.int v)] st H Q = M9 36 [l0, .val (.int v)] (.int v :: st) H Q := w_x (show decode kb9 35 = .ok (.iload_n 1, 1) from by decide +kernel) rfl
theorem pf9_91 : pfR tables_1 y9.cls y9.name 91 = some ("StreamSigScanner", 26, .int) := by decide +kernel
theorem m9_36 : M9 36 ls (.int v :: .ref b :: st) (put b pre s A post) Q = M9 39 ls st (put b pre (ou s 14 v) A post) Q := w_put (show decode kb9 36 = .ok (.putfield 91, 3) from by decide +kernel) pf9_91 put_o (Nat.zero_le _) (by show 26 < 29; omega) rfl put_s14
theorem m9_39 : M9 39 [.val (.ref r), l1] st H Q = M9 40 [.val (.ref r), l1] (.ref r :: st) H Q := w_x (show decode kb9 39 = .ok (.aload_n 0, 1) from by decide +kernel) rfl
theorem m9_40 : M9 40 ls st H Q = M9 41 ls (.int 0 :: st) H Q := w_con (show decode kb9 40 = .ok (.iconst 0, 1) from by decide +kernel) rfl (by decide)
theorem pf9_94 : pfR tables_1 y9.cls y9.name 94 = some ("StreamSigScanner", 27, .int) := by decide +kernel
theorem m9_41 : M9 41 ls (.int v :: .ref b :: st) (put b pre s A post) Q = M9 44 ls st (put b pre (ou s 15 v) A post) Q := w_put (show decode kb9 41 = .ok (.putfield 94, 3) from by decide +kernel) pf9_94 put_o (Nat.zero_le _) (by show 27 < 29; omega) rfl put_s15
theorem m9_44 : M9 44 ls st H Q = M9 45 ls (.int 0 :: st) H Q := w_con (show decode kb9 44 = .ok (.iconst 0, 1) from by decide +kernel) rfl (by decide)
theorem m9_45 : M9 45 ls (.int z :: st) H Q = Q (some (.int z)) H := w_iret (show decode kb9 45 = .ok (.ireturn, 1) from by decide +kernel) rfl
theorem m10_0 : M10 0 [l0, .val (.int v)] st H Q = M10 1 [l0, .val (.int v)] (.int v :: st) H Q := w_x (show decode kb10 0 = .ok (.iload_n 1, 1) from by decide +kernel) rfl
theorem m10_1 : M10 1 ls (.int x :: st) H Q = if x < 0 then M10 15 ls st H Q else M10 4 ls st H Q := w_if (show decode kb10 1 = .ok (.ifCond .lt 14, 3) from by decide +kernel) (z_lt x) rfl
theorem m10_4 : M10 4 [l0, .val (.int v)] st H Q = M10 5 [l0, .val (.int v)] (.int v :: st) H Q := w_x (show decode kb10 4 = .ok (.iload_n 1, 1) from by decide +kernel) rfl
theorem m10_5 : M10 5 ls st H Q = M10 8 ls (.int 256 :: st) H Q := w_con (show decode kb10 5 = .ok (.sipush 256, 3) from by decide +kernel) rfl (by decide)
theorem m10_8 : M10 8 ls (.int y :: .int x :: st) H Q = if x < y then M10 11 ls st H Q else M10 15 ls st H Q := w_icmpN (show decode kb10 8 = .ok (.if_icmp .ge 7, 3) from by decide +kernel) (i_ge x y) rfl
theorem m10_11 : M10 11 ls st H Q = M10 12 ls (.int 1 :: st) H Q := w_con (show decode kb10 11 = .ok (.iconst 1, 1) from by decide +kernel) rfl (by decide)
theorem m10_12 : M10 12 ls st H Q = M10 16 ls st H Q := w_x (show decode kb10 12 = .ok (.goto 4, 3) from by decide +kernel) rfl
theorem m10_15 : M10 15 ls st H Q = M10 16 ls (.int 0 :: st) H Q := w_con (show decode kb10 15 = .ok (.iconst 0, 1) from by decide +kernel) rfl (by decide)
theorem m10_16 : M10 16 ls (.int z :: st) H Q = Q (some (.int (nar .boolean z))) H := w_iretN (show decode kb10 16 = .ok (.ireturn, 1) from by decide +kernel) rfl (by simp)
theorem m11_0 : M11 0 [.val (.ref r), l1] st H Q = M11 1 [.val (.ref r), l1] (.ref r :: st) H Q := w_x (show decode kb11 0 = .ok (.aload_n 0, 1) from by decide +kernel) rfl
theorem m11_1 : M11 1 ls (.ref b :: st) (put b pre s A post) Q = M11 4 ls (.int (s 13) :: st) (put b pre s A post) Q := w_get (show decode kb11 1 = .ok (.getfield 88, 3) from by decide +kernel) gf_88 put_o rfl
theorem m11_4 : M11 4 ls (.int x :: st) H Q = if x = 0 then M11 7 ls st H Q else M11 9 ls st H Q := w_ifN (show decode kb11 4 = .ok (.ifCond .ne 5, 3) from by decide +kernel) (z_ne x) rfl
theorem m11_7 : M11 7 ls st H Q = M11 8 ls (.int (-1) :: st) H Q := w_con (show decode kb11 7 = .ok (.iconst (-1), 1) from by decide +kernel) rfl (by decide)
theorem m11_8 : M11 8 ls (.int z :: st) H Q = Q (some (.int z)) H := w_iret (show decode kb11 8 = .ok (.ireturn, 1) from by decide +kernel) rfl
theorem m11_9 : M11 9 [.val (.ref r), l1] st H Q = M11 10 [.val (.ref r), l1] (.ref r :: st) H Q := w_x (show decode kb11 9 = .ok (.aload_n 0, 1) from by decide +kernel) rfl
theorem m11_10 : M11 10 [l0, .val (.int v)] st H Q = M11 11 [l0, .val (.int v)] (.int v :: st) H Q := w_x (show decode kb11 10 = .ok (.iload_n 1, 1) from by decide +kernel) rfl
theorem cr11_100 : vR tables_1 dn y11 100 = some (true, y2, prog_1_method_22_code, 2, (some .boolean), 1, 0) := pR_of (cR_of (by decide +kernel) rc_2 dn_2 dn_11 (sig := ⟨[.int], some .boolean⟩) (by decide +kernel) (by decide +kernel) rfl rfl) (by decide +kernel) (by decide +kernel)
theorem m11_11 (a0 : Int32) : M11 11 ls [.int a0, .ref b] (put b pre s A post) Q = M2 0 [.val (.ref b), .val (.int a0)] [] (put b pre s A post) (fun v H1 => M11 14 ls (v.toList ++ []) H1 Q) := w_virt (as := [.int a0]) (rest := []) (a := b) (show decode kb11 11 = .ok (.invokevirtual 100, 3) from by decide +kernel) cr11_100 put_o rfl rfl (Nat.le_of_ble_eq_true rfl) (by show 2 ≤ 2; omega) rfl
theorem m11_14 : M11 14 ls (.int x :: st) H Q = if x = 0 then M11 17 ls st H Q else M11 20 ls st H Q := w_ifN (show decode kb11 14 = .ok (.ifCond .ne 6, 3) from by decide +kernel) (z_ne x) rfl
theorem m11_17 : M11 17 ls st H Q = M11 19 ls (.int (-2) :: st) H Q := w_con (show decode kb11 17 = .ok (.bipush (-2), 2) from by decide +kernel) rfl (by decide)
theorem m11_19 : M11 19 ls (.int z :: st) H Q = Q (some (.int z)) H := w_iret (show decode kb11 19 = .ok (.ireturn, 1) from by decide +kernel) rfl
theorem m11_20 : M11 20 [.val (.ref r), l1] st H Q = M11 21 [.val (.ref r), l1] (.ref r :: st) H Q := w_x (show decode kb11 20 = .ok (.aload_n 0, 1) from by decide +kernel) rfl
theorem m11_21 : M11 21 ls (.ref b :: st) (put b pre s A post) Q = M11 24 ls (.int (s 15) :: st) (put b pre s A post) Q := w_get (show decode kb11 21 = .ok (.getfield 94, 3) from by decide +kernel) gf_94 put_o rfl
theorem m11_24 : M11 24 ls st H Q = M11 26 ls (.int 16 :: st) H Q := w_con (show decode kb11 24 = .ok (.bipush 16, 2) from by decide +kernel) rfl (by decide)
theorem m11_26 : M11 26 ls (.int y :: .int x :: st) H Q = if x < y then M11 32 ls st H Q else M11 29 ls st H Q := w_icmp (show decode kb11 26 = .ok (.if_icmp .lt 6, 3) from by decide +kernel) (i_lt x y) rfl
theorem m11_29 : M11 29 ls st H Q = M11 31 ls (.int (-3) :: st) H Q := w_con (show decode kb11 29 = .ok (.bipush (-3), 2) from by decide +kernel) rfl (by decide)
theorem m11_31 : M11 31 ls (.int z :: st) H Q = Q (some (.int z)) H := w_iret (show decode kb11 31 = .ok (.ireturn, 1) from by decide +kernel) rfl
theorem m11_32 : M11 32 [.val (.ref r), l1] st H Q = M11 33 [.val (.ref r), l1] (.ref r :: st) H Q := w_x (show decode kb11 32 = .ok (.aload_n 0, 1) from by decide +kernel) rfl
theorem m11_33 : M11 33 ls (.ref b :: st) (put b pre s A post) Q = M11 36 ls (.int (s 14) :: st) (put b pre s A post) Q := w_get (show decode kb11 33 = .ok (.getfield 91, 3) from by decide +kernel) gf_91 put_o rfl
theorem m11_36 : M11 36 [.val (.ref r), l1] st H Q = M11 37 [.val (.ref r), l1] (.ref r :: st) H Q := w_x (show decode kb11 36 = .ok (.aload_n 0, 1) from by decide +kernel) rfl
theorem m11_37 : M11 37 ls (.ref b :: st) (put b pre s A post) Q = M11 40 ls (.int (s 15) :: st) (put b pre s A post) Q := w_get (show decode kb11 37 = .ok (.getfield 94, 3) from by decide +kernel) gf_94 put_o rfl
theorem m11_40 : M11 40 ls (.int y :: .int x :: st) H Q = M11 41 ls (.int (x + y) :: st) H Q := w_x (show decode kb11 40 = .ok (.iadd, 1) from by decide +kernel) rfl
theorem m11_41 : M11 41 ls st H Q = M11 44 ls (.int 256 :: st) H Q := w_con (show decode kb11 41 = .ok (.sipush 256, 3) from by decide +kernel) rfl (by decide)
theorem m11_44 : M11 44 ls (.int y :: .int x :: st) H Q = if x < y then M11 50 ls st H Q else M11 47 ls st H Q := w_icmp (show decode kb11 44 = .ok (.if_icmp .lt 6, 3) from by decide +kernel) (i_lt x y) rfl
theorem m11_47 : M11 47 ls st H Q = M11 49 ls (.int (-5) :: st) H Q := w_con (show decode kb11 47 = .ok (.bipush (-5), 2) from by decide +kernel) rfl (by decide)
theorem m11_49 : M11 49 ls (.int z :: st) H Q = Q (some (.int z)) H := w_iret (show decode kb11 49 = .ok (.ireturn, 1) from by decide +kernel) rfl
theorem m11_50 : M11 50 [.val (.ref r), l1] st H Q = M11 51 [.val (.ref r), l1] (.ref r :: st) H Q := w_x (show decode kb11 50 = .ok (.aload_n 0, 1) from by decide +kernel) rfl
theorem m11_51 : M11 51 ls (.ref b :: st) (put b pre s A post) Q = M11 54 ls (.int (s 15) :: st) (put b pre s A post) Q := w_get (show decode kb11 51 = .ok (.getfield 94, 3) from by decide +kernel) gf_94 put_o rfl
theorem m11_54 : M11 54 ls (.int x :: st) H Q = if x < 0 then M11 57 ls st H Q else M11 60 ls st H Q := w_ifN (show decode kb11 54 = .ok (.ifCond .ge 6, 3) from by decide +kernel) (z_ge x) rfl
theorem m11_57 : M11 57 ls st H Q = M11 59 ls (.int (-3) :: st) H Q := w_con (show decode kb11 57 = .ok (.bipush (-3), 2) from by decide +kernel) rfl (by decide)
theorem m11_59 : M11 59 ls (.int z :: st) H Q = Q (some (.int z)) H := w_iret (show decode kb11 59 = .ok (.ireturn, 1) from by decide +kernel) rfl
theorem m11_60 : M11 60 [.val (.ref r), l1] st H Q = M11 61 [.val (.ref r), l1] (.ref r :: st) H Q := w_x (show decode kb11 60 = .ok (.aload_n 0, 1) from by decide +kernel) rfl
theorem m11_61 : M11 61 ls (.ref b :: st) (put b pre s A post) Q = M11 64 ls (.ref (b + 10) :: st) (put b pre s A post) Q := w_get (show decode kb11 61 = .ok (.getfield 38, 3) from by decide +kernel) gf_38 put_o rfl
theorem m11_64 : M11 64 [.val (.ref r), l1] st H Q = M11 65 [.val (.ref r), l1] (.ref r :: st) H Q := w_x (show decode kb11 64 = .ok (.aload_n 0, 1) from by decide +kernel) rfl
theorem m11_65 : M11 65 ls (.ref b :: st) (put b pre s A post) Q = M11 68 ls (.int (s 15) :: st) (put b pre s A post) Q := w_get (show decode kb11 65 = .ok (.getfield 94, 3) from by decide +kernel) gf_94 put_o rfl
theorem m11_68 : M11 68 [l0, .val (.int v)] st H Q = M11 69 [l0, .val (.int v)] (.int v :: st) H Q := w_x (show decode kb11 68 = .ok (.iload_n 1, 1) from by decide +kernel) rfl
theorem m11_69  : M11 69 ls (.int v :: .int j :: .ref (b + 10) :: st) (put b pre s A post) Q = (inB j (A 9) ∧ M11 70 ls st (put b pre s (ou A 9 (setA (A 9) j v)) post) Q) := w_ist (show decode kb11 69 = .ok (.iastore, 1) from by decide +kernel) rfl put_a9 (Nat.zero_le _) rfl put_w9
theorem m11_70 : M11 70 [.val (.ref r), l1] st H Q = M11 71 [.val (.ref r), l1] (.ref r :: st) H Q := w_x (show decode kb11 70 = .ok (.aload_n 0, 1) from by decide +kernel) rfl
theorem m11_71 : M11 71 ls ((.ref r) :: st) H Q = M11 72 ls ((.ref r) :: (.ref r) :: st) H Q := w_x (show decode kb11 71 = .ok (.dup, 1) from by decide +kernel) rfl
theorem m11_72 : M11 72 ls (.ref b :: st) (put b pre s A post) Q = M11 75 ls (.int (s 15) :: st) (put b pre s A post) Q := w_get (show decode kb11 72 = .ok (.getfield 94, 3) from by decide +kernel) gf_94 put_o rfl
theorem m11_75 : M11 75 ls st H Q = M11 76 ls (.int 1 :: st) H Q := w_con (show decode kb11 75 = .ok (.iconst 1, 1) from by decide +kernel) rfl (by decide)
theorem m11_76 : M11 76 ls (.int y :: .int x :: st) H Q = M11 77 ls (.int (x + y) :: st) H Q := w_x (show decode kb11 76 = .ok (.iadd, 1) from by decide +kernel) rfl
theorem pf11_94 : pfR tables_1 y11.cls y11.name 94 = some ("StreamSigScanner", 27, .int) := by decide +kernel
theorem m11_77 : M11 77 ls (.int v :: .ref b :: st) (put b pre s A post) Q = M11 80 ls st (put b pre (ou s 15 v) A post) Q := w_put (show decode kb11 77 = .ok (.putfield 94, 3) from by decide +kernel) pf11_94 put_o (Nat.zero_le _) (by show 27 < 29; omega) rfl put_s15
theorem m11_80 : M11 80 ls st H Q = M11 81 ls (.int 0 :: st) H Q := w_con (show decode kb11 80 = .ok (.iconst 0, 1) from by decide +kernel) rfl (by decide)
theorem m11_81 : M11 81 ls (.int z :: st) H Q = Q (some (.int z)) H := w_iret (show decode kb11 81 = .ok (.ireturn, 1) from by decide +kernel) rfl
theorem m12_0 : M12 0 [.val (.ref r), l1, l2] st H Q = M12 1 [.val (.ref r), l1, l2] (.ref r :: st) H Q := w_x (show decode kb12 0 = .ok (.aload_n 0, 1) from by decide +kernel) rfl
theorem m12_1 : M12 1 ls (.ref b :: st) (put b pre s A post) Q = M12 4 ls (.int (s 13) :: st) (put b pre s A post) Q := w_get (show decode kb12 1 = .ok (.getfield 88, 3) from by decide +kernel) gf_88 put_o rfl
theorem m12_4 : M12 4 ls (.int x :: st) H Q = if x = 0 then M12 7 ls st H Q else M12 9 ls st H Q := w_ifN (show decode kb12 4 = .ok (.ifCond .ne 5, 3) from by decide +kernel) (z_ne x) rfl
theorem m12_7 : M12 7 ls st H Q = M12 8 ls (.int (-1) :: st) H Q := w_con (show decode kb12 7 = .ok (.iconst (-1), 1) from by decide +kernel) rfl (by decide)
theorem m12_8 : M12 8 ls (.int z :: st) H Q = Q (some (.int z)) H := w_iret (show decode kb12 8 = .ok (.ireturn, 1) from by decide +kernel) rfl
theorem m12_9 : M12 9 [.val (.ref r), l1, l2] st H Q = M12 10 [.val (.ref r), l1, l2] (.ref r :: st) H Q := w_x (show decode kb12 9 = .ok (.aload_n 0, 1) from by decide +kernel) rfl
theorem m12_10 : M12 10 ls (.ref b :: st) (put b pre s A post) Q = M12 13 ls (.int (s 7) :: st) (put b pre s A post) Q := w_get (show decode kb12 10 = .ok (.getfield 70, 3) from by decide +kernel) gf_70 put_o rfl
theorem m12_13u : M12 13 [l0, .unset, l2] ((.int v) :: st) H Q = M12 14 [l0, .val (.int v), l2] st H Q := w_st (i := 1) (p := isI) (show decode kb12 13 = .ok (.istore_n 1, 1) from by decide +kernel) rfl rfl rfl rfl rfl rfl
theorem m12_14 : M12 14 ls st H Q = M12 15 ls (.int 0 :: st) H Q := w_con (show decode kb12 14 = .ok (.iconst 0, 1) from by decide +kernel) rfl (by decide)
theorem m12_15u : M12 15 [l0, l1, .unset] ((.int v) :: st) H Q = M12 16 [l0, l1, .val (.int v)] st H Q := w_st (i := 2) (p := isI) (show decode kb12 15 = .ok (.istore_n 2, 1) from by decide +kernel) rfl rfl rfl rfl rfl rfl
theorem m12_16 : M12 16 [l0, l1, .val (.int v)] st H Q = M12 17 [l0, l1, .val (.int v)] (.int v :: st) H Q := w_x (show decode kb12 16 = .ok (.iload_n 2, 1) from by decide +kernel) rfl
theorem m12_17 : M12 17 [.val (.ref r), l1, l2] st H Q = M12 18 [.val (.ref r), l1, l2] (.ref r :: st) H Q := w_x (show decode kb12 17 = .ok (.aload_n 0, 1) from by decide +kernel) rfl
theorem m12_18 : M12 18 ls (.ref b :: st) (put b pre s A post) Q = M12 21 ls (.int (s 15) :: st) (put b pre s A post) Q := w_get (show decode kb12 18 = .ok (.getfield 94, 3) from by decide +kernel) gf_94 put_o rfl
theorem m12_21 : M12 21 ls (.int y :: .int x :: st) H Q = if x < y then M12 24 ls st H Q else M12 53 ls st H Q := w_icmpN (show decode kb12 21 = .ok (.if_icmp .ge 32, 3) from by decide +kernel) (i_ge x y) rfl
theorem m12_24 : M12 24 [l0, l1, .val (.int v)] st H Q = M12 25 [l0, l1, .val (.int v)] (.int v :: st) H Q := w_x (show decode kb12 24 = .ok (.iload_n 2, 1) from by decide +kernel) rfl
theorem m12_25 : M12 25 ls st H Q = M12 27 ls (.int 16 :: st) H Q := w_con (show decode kb12 25 = .ok (.bipush 16, 2) from by decide +kernel) rfl (by decide)
theorem m12_27 : M12 27 ls (.int y :: .int x :: st) H Q = if x < y then M12 30 ls st H Q else M12 53 ls st H Q := w_icmpN (show decode kb12 27 = .ok (.if_icmp .ge 26, 3) from by decide +kernel) (i_ge x y) rfl
theorem m12_30 : M12 30 [.val (.ref r), l1, l2] st H Q = M12 31 [.val (.ref r), l1, l2] (.ref r :: st) H Q := w_x (show decode kb12 30 = .ok (.aload_n 0, 1) from by decide +kernel) rfl
theorem m12_31 : M12 31 [.val (.ref r), l1, l2] st H Q = M12 32 [.val (.ref r), l1, l2] (.ref r :: st) H Q := w_x (show decode kb12 31 = .ok (.aload_n 0, 1) from by decide +kernel) rfl
theorem m12_32 : M12 32 ls (.ref b :: st) (put b pre s A post) Q = M12 35 ls (.int (s 14) :: st) (put b pre s A post) Q := w_get (show decode kb12 32 = .ok (.getfield 91, 3) from by decide +kernel) gf_91 put_o rfl
theorem m12_35 : M12 35 [l0, l1, .val (.int v)] st H Q = M12 36 [l0, l1, .val (.int v)] (.int v :: st) H Q := w_x (show decode kb12 35 = .ok (.iload_n 2, 1) from by decide +kernel) rfl
theorem m12_36 : M12 36 ls (.int y :: .int x :: st) H Q = M12 37 ls (.int (x + y) :: st) H Q := w_x (show decode kb12 36 = .ok (.iadd, 1) from by decide +kernel) rfl
theorem m12_37 : M12 37 [.val (.ref r), l1, l2] st H Q = M12 38 [.val (.ref r), l1, l2] (.ref r :: st) H Q := w_x (show decode kb12 37 = .ok (.aload_n 0, 1) from by decide +kernel) rfl
theorem m12_38 : M12 38 ls (.ref b :: st) (put b pre s A post) Q = M12 41 ls (.ref (b + 10) :: st) (put b pre s A post) Q := w_get (show decode kb12 38 = .ok (.getfield 38, 3) from by decide +kernel) gf_38 put_o rfl
theorem m12_41 : M12 41 [l0, l1, .val (.int v)] st H Q = M12 42 [l0, l1, .val (.int v)] (.int v :: st) H Q := w_x (show decode kb12 41 = .ok (.iload_n 2, 1) from by decide +kernel) rfl
theorem m12_42  : M12 42 ls (.int j :: .ref (b + 10) :: st) (put b pre s A post) Q = (inB j (A 9) ∧ M12 43 ls (.int (getA (A 9) j) :: st) (put b pre s A post) Q) := w_ild (show decode kb12 42 = .ok (.iaload, 1) from by decide +kernel) rfl put_a9
theorem m12_43 : M12 43 [l0, .val (.int v), l2] st H Q = M12 44 [l0, .val (.int v), l2] (.int v :: st) H Q := w_x (show decode kb12 43 = .ok (.iload_n 1, 1) from by decide +kernel) rfl
theorem cr12_120 : vR tables_1 dn y12 120 = some (true, y13, prog_1_method_12_code, 4, none, 3, 19) := pR_of (cR_of (by decide +kernel) rc_13 dn_13 dn_12 (sig := ⟨[.int, .int, .int], none⟩) (by decide +kernel) (by decide +kernel) rfl rfl) (by decide +kernel) (by decide +kernel)
theorem m12_44 (a0 : Int32) (a1 : Int32) (a2 : Int32) : M12 44 ls [.int a2, .int a1, .int a0, .ref b] (put b pre s A post) Q = M13 0 [.val (.ref b), .val (.int a0), .val (.int a1), .val (.int a2)] [] (put b pre s A post) (fun v H1 => M12 47 ls (v.toList ++ []) H1 Q) := w_virt (as := [.int a2, .int a1, .int a0]) (rest := []) (a := b) (show decode kb12 44 = .ok (.invokevirtual 120, 3) from by decide +kernel) cr12_120 put_o rfl rfl (Nat.le_of_ble_eq_true rfl) (by show 4 ≤ 4; omega) rfl
theorem m12_47 : M12 47 [l0, l1, .val (.int v)] st H Q = M12 50 [l0, l1, .val (.int (v + 1))] st H Q := w_iinc (show decode kb12 47 = .ok (.iinc 2 1, 3) from by decide +kernel) rfl (by decide) rfl
theorem m12_50 : M12 50 ls st H Q = M12 16 ls st H Q := w_x (show decode kb12 50 = .ok (.goto (-34), 3) from by decide +kernel) rfl
theorem m12_53 : M12 53 [.val (.ref r), l1, l2] st H Q = M12 54 [.val (.ref r), l1, l2] (.ref r :: st) H Q := w_x (show decode kb12 53 = .ok (.aload_n 0, 1) from by decide +kernel) rfl
theorem m12_54 : M12 54 ls st H Q = M12 55 ls (.int 0 :: st) H Q := w_con (show decode kb12 54 = .ok (.iconst 0, 1) from by decide +kernel) rfl (by decide)
theorem pf12_88 : pfR tables_1 y12.cls y12.name 88 = some ("StreamSigScanner", 25, .boolean) := by decide +kernel
theorem m12_55 : M12 55 ls (.int v :: .ref b :: st) (put b pre s A post) Q = M12 58 ls st (put b pre (ou s 13 (nar .boolean v)) A post) Q := w_put (show decode kb12 55 = .ok (.putfield 88, 3) from by decide +kernel) pf12_88 put_o (Nat.zero_le _) (by show 25 < 29; omega) rfl put_s13
theorem m12_58 : M12 58 [.val (.ref r), l1, l2] st H Q = M12 59 [.val (.ref r), l1, l2] (.ref r :: st) H Q := w_x (show decode kb12 58 = .ok (.aload_n 0, 1) from by decide +kernel) rfl
theorem m12_59 : M12 59 ls st H Q = M12 60 ls (.int (-1) :: st) H Q := w_con (show decode kb12 59 = .ok (.iconst (-1), 1) from by decide +kernel) rfl (by decide)
theorem pf12_91 : pfR tables_1 y12.cls y12.name 91 = some ("StreamSigScanner", 26, .int) := by decide +kernel
theorem m12_60 : M12 60 ls (.int v :: .ref b :: st) (put b pre s A post) Q = M12 63 ls st (put b pre (ou s 14 v) A post) Q := w_put (show decode kb12 60 = .ok (.putfield 91, 3) from by decide +kernel) pf12_91 put_o (Nat.zero_le _) (by show 26 < 29; omega) rfl put_s14
theorem m12_63 : M12 63 [.val (.ref r), l1, l2] st H Q = M12 64 [.val (.ref r), l1, l2] (.ref r :: st) H Q := w_x (show decode kb12 63 = .ok (.aload_n 0, 1) from by decide +kernel) rfl
theorem m12_64 : M12 64 ls st H Q = M12 65 ls (.int 0 :: st) H Q := w_con (show decode kb12 64 = .ok (.iconst 0, 1) from by decide +kernel) rfl (by decide)
theorem pf12_94 : pfR tables_1 y12.cls y12.name 94 = some ("StreamSigScanner", 27, .int) := by decide +kernel
theorem m12_65 : M12 65 ls (.int v :: .ref b :: st) (put b pre s A post) Q = M12 68 ls st (put b pre (ou s 15 v) A post) Q := w_put (show decode kb12 65 = .ok (.putfield 94, 3) from by decide +kernel) pf12_94 put_o (Nat.zero_le _) (by show 27 < 29; omega) rfl put_s15
theorem m12_68 : M12 68 [.val (.ref r), l1, l2] st H Q = M12 69 [.val (.ref r), l1, l2] (.ref r :: st) H Q := w_x (show decode kb12 68 = .ok (.aload_n 0, 1) from by decide +kernel) rfl
theorem cr12_124 : vR tables_1 dn y12 124 = some (true, y14, prog_1_method_13_code, 4, none, 0, 0) := pR_of (cR_of (by decide +kernel) rc_14 dn_14 dn_12 (sig := ⟨[], none⟩) (by decide +kernel) (by decide +kernel) rfl rfl) (by decide +kernel) (by decide +kernel)
theorem m12_69 : M12 69 ls [.ref b] (put b pre s A post) Q = M14 0 [.val (.ref b), .unset, .unset, .unset] [] (put b pre s A post) (fun v H1 => M12 72 ls (v.toList ++ []) H1 Q) := w_virt (as := []) (rest := []) (a := b) (show decode kb12 69 = .ok (.invokevirtual 124, 3) from by decide +kernel) cr12_124 put_o rfl rfl (Nat.le_of_ble_eq_true rfl) (by show 1 ≤ 4; omega) rfl
theorem m12_72 : M12 72 [.val (.ref r), l1, l2] st H Q = M12 73 [.val (.ref r), l1, l2] (.ref r :: st) H Q := w_x (show decode kb12 72 = .ok (.aload_n 0, 1) from by decide +kernel) rfl
theorem m12_73 : M12 73 ls (.ref b :: st) (put b pre s A post) Q = M12 76 ls (.int (s 7) :: st) (put b pre s A post) Q := w_get (show decode kb12 73 = .ok (.getfield 70, 3) from by decide +kernel) gf_70 put_o rfl
theorem m12_76 : M12 76 [l0, .val (.int v), l2] st H Q = M12 77 [l0, .val (.int v), l2] (.int v :: st) H Q := w_x (show decode kb12 76 = .ok (.iload_n 1, 1) from by decide +kernel) rfl
theorem m12_77 : M12 77 ls (.int y :: .int x :: st) H Q = M12 78 ls (.int (x - y) :: st) H Q := w_x (show decode kb12 77 = .ok (.isub, 1) from by decide +kernel) rfl
theorem m12_78 : M12 78 ls (.int z :: st) H Q = Q (some (.int z)) H := w_iret (show decode kb12 78 = .ok (.ireturn, 1) from by decide +kernel) rfl
theorem m13_0 : M13 0 [.val (.ref r), l1, l2, l3] st H Q = M13 1 [.val (.ref r), l1, l2, l3] (.ref r :: st) H Q := w_x (show decode kb13 0 = .ok (.aload_n 0, 1) from by decide +kernel) rfl
theorem m13_1 : M13 1 [l0, .val (.int v), l2, l3] st H Q = M13 2 [l0, .val (.int v), l2, l3] (.int v :: st) H Q := w_x (show decode kb13 1 = .ok (.iload_n 1, 1) from by decide +kernel) rfl
theorem cr13_117 : vR tables_1 dn y13 117 = some (true, y10, prog_1_method_23_code, 2, (some .boolean), 1, 0) := pR_of (cR_of (by decide +kernel) rc_10 dn_10 dn_13 (sig := ⟨[.int], some .boolean⟩) (by decide +kernel) (by decide +kernel) rfl rfl) (by decide +kernel) (by decide +kernel)
theorem m13_2 (a0 : Int32) : M13 2 ls [.int a0, .ref b] (put b pre s A post) Q = M10 0 [.val (.ref b), .val (.int a0)] [] (put b pre s A post) (fun v H1 => M13 5 ls (v.toList ++ []) H1 Q) := w_virt (as := [.int a0]) (rest := []) (a := b) (show decode kb13 2 = .ok (.invokevirtual 117, 3) from by decide +kernel) cr13_117 put_o rfl rfl (Nat.le_of_ble_eq_true rfl) (by show 2 ≤ 2; omega) rfl
theorem m13_5 : M13 5 ls (.int x :: st) H Q = if x = 0 then M13 8 ls st H Q else M13 9 ls st H Q := w_ifN (show decode kb13 5 = .ok (.ifCond .ne 4, 3) from by decide +kernel) (z_ne x) rfl
theorem m13_8 : M13 8 ls [] H Q = Q none H := w_vret (show decode kb13 8 = .ok (.return_, 1) from by decide +kernel) rfl
theorem m13_9 : M13 9 [.val (.ref r), l1, l2, l3] st H Q = M13 10 [.val (.ref r), l1, l2, l3] (.ref r :: st) H Q := w_x (show decode kb13 9 = .ok (.aload_n 0, 1) from by decide +kernel) rfl
theorem m13_10 : M13 10 ls (.ref b :: st) (put b pre s A post) Q = M13 13 ls (.ref (b + 8) :: st) (put b pre s A post) Q := w_get (show decode kb13 10 = .ok (.getfield 31, 3) from by decide +kernel) gf_31 put_o rfl
theorem m13_13 : M13 13 [l0, .val (.int v), l2, l3] st H Q = M13 14 [l0, .val (.int v), l2, l3] (.int v :: st) H Q := w_x (show decode kb13 13 = .ok (.iload_n 1, 1) from by decide +kernel) rfl
theorem m13_14  : M13 14 ls (.int j :: .ref (b + 8) :: st) (put b pre s A post) Q = (inB j (A 7) ∧ M13 15 ls (.int (getA (A 7) j) :: st) (put b pre s A post) Q) := w_ild (show decode kb13 14 = .ok (.baload, 1) from by decide +kernel) rfl put_a7
theorem m13_15 : M13 15 ls (.int x :: st) H Q = if x = 0 then M13 57 ls st H Q else M13 18 ls st H Q := w_if (show decode kb13 15 = .ok (.ifCond .eq 42, 3) from by decide +kernel) (z_eq x) rfl
theorem m13_18 : M13 18 [.val (.ref r), l1, l2, l3] st H Q = M13 19 [.val (.ref r), l1, l2, l3] (.ref r :: st) H Q := w_x (show decode kb13 18 = .ok (.aload_n 0, 1) from by decide +kernel) rfl
theorem m13_19 : M13 19 ls (.ref b :: st) (put b pre s A post) Q = M13 22 ls (.ref (b + 9) :: st) (put b pre s A post) Q := w_get (show decode kb13 19 = .ok (.getfield 35, 3) from by decide +kernel) gf_35 put_o rfl
theorem m13_22 : M13 22 [l0, .val (.int v), l2, l3] st H Q = M13 23 [l0, .val (.int v), l2, l3] (.int v :: st) H Q := w_x (show decode kb13 22 = .ok (.iload_n 1, 1) from by decide +kernel) rfl
theorem m13_23  : M13 23 ls (.int j :: .ref (b + 9) :: st) (put b pre s A post) Q = (inB j (A 8) ∧ M13 24 ls (.int (getA (A 8) j) :: st) (put b pre s A post) Q) := w_ild (show decode kb13 23 = .ok (.iaload, 1) from by decide +kernel) rfl put_a8
theorem m13_24 : M13 24 [l0, l1, .val (.int v), l3] st H Q = M13 25 [l0, l1, .val (.int v), l3] (.int v :: st) H Q := w_x (show decode kb13 24 = .ok (.iload_n 2, 1) from by decide +kernel) rfl
theorem m13_25 : M13 25 ls (.int y :: .int x :: st) H Q = if x = y then M13 28 ls st H Q else M13 41 ls st H Q := w_icmpN (show decode kb13 25 = .ok (.if_icmp .ne 16, 3) from by decide +kernel) (i_ne x y) rfl
theorem m13_28 : M13 28 [.val (.ref r), l1, l2, l3] st H Q = M13 29 [.val (.ref r), l1, l2, l3] (.ref r :: st) H Q := w_x (show decode kb13 28 = .ok (.aload_n 0, 1) from by decide +kernel) rfl
theorem m13_29 : M13 29 ls ((.ref r) :: st) H Q = M13 30 ls ((.ref r) :: (.ref r) :: st) H Q := w_x (show decode kb13 29 = .ok (.dup, 1) from by decide +kernel) rfl
theorem m13_30 : M13 30 ls (.ref b :: st) (put b pre s A post) Q = M13 33 ls (.int (s 10) :: st) (put b pre s A post) Q := w_get (show decode kb13 30 = .ok (.getfield 79, 3) from by decide +kernel) gf_79 put_o rfl
theorem m13_33 : M13 33 ls st H Q = M13 34 ls (.int 1 :: st) H Q := w_con (show decode kb13 33 = .ok (.iconst 1, 1) from by decide +kernel) rfl (by decide)
theorem m13_34 : M13 34 ls (.int y :: .int x :: st) H Q = M13 35 ls (.int (x + y) :: st) H Q := w_x (show decode kb13 34 = .ok (.iadd, 1) from by decide +kernel) rfl
theorem pf13_79 : pfR tables_1 y13.cls y13.name 79 = some ("StreamSigScanner", 22, .int) := by decide +kernel
theorem m13_35 : M13 35 ls (.int v :: .ref b :: st) (put b pre s A post) Q = M13 38 ls st (put b pre (ou s 10 v) A post) Q := w_put (show decode kb13 35 = .ok (.putfield 79, 3) from by decide +kernel) pf13_79 put_o (Nat.zero_le _) (by show 22 < 29; omega) rfl put_s10
theorem m13_38 : M13 38 ls st H Q = M13 56 ls st H Q := w_x (show decode kb13 38 = .ok (.goto 18, 3) from by decide +kernel) rfl
theorem m13_41 : M13 41 [.val (.ref r), l1, l2, l3] st H Q = M13 42 [.val (.ref r), l1, l2, l3] (.ref r :: st) H Q := w_x (show decode kb13 41 = .ok (.aload_n 0, 1) from by decide +kernel) rfl
theorem m13_42 : M13 42 ls ((.ref r) :: st) H Q = M13 43 ls ((.ref r) :: (.ref r) :: st) H Q := w_x (show decode kb13 42 = .ok (.dup, 1) from by decide +kernel) rfl
theorem m13_43 : M13 43 ls (.ref b :: st) (put b pre s A post) Q = M13 46 ls (.int (s 9) :: st) (put b pre s A post) Q := w_get (show decode kb13 43 = .ok (.getfield 76, 3) from by decide +kernel) gf_76 put_o rfl
theorem m13_46 : M13 46 ls st H Q = M13 47 ls (.int 1 :: st) H Q := w_con (show decode kb13 46 = .ok (.iconst 1, 1) from by decide +kernel) rfl (by decide)
theorem m13_47 : M13 47 ls (.int y :: .int x :: st) H Q = M13 48 ls (.int (x + y) :: st) H Q := w_x (show decode kb13 47 = .ok (.iadd, 1) from by decide +kernel) rfl
theorem pf13_76 : pfR tables_1 y13.cls y13.name 76 = some ("StreamSigScanner", 21, .int) := by decide +kernel
theorem m13_48 : M13 48 ls (.int v :: .ref b :: st) (put b pre s A post) Q = M13 51 ls st (put b pre (ou s 9 v) A post) Q := w_put (show decode kb13 48 = .ok (.putfield 76, 3) from by decide +kernel) pf13_76 put_o (Nat.zero_le _) (by show 21 < 29; omega) rfl put_s9
theorem m13_51 : M13 51 [.val (.ref r), l1, l2, l3] st H Q = M13 52 [.val (.ref r), l1, l2, l3] (.ref r :: st) H Q := w_x (show decode kb13 51 = .ok (.aload_n 0, 1) from by decide +kernel) rfl
theorem m13_52 : M13 52 [l0, .val (.int v), l2, l3] st H Q = M13 53 [l0, .val (.int v), l2, l3] (.int v :: st) H Q := w_x (show decode kb13 52 = .ok (.iload_n 1, 1) from by decide +kernel) rfl
theorem pf13_85 : pfR tables_1 y13.cls y13.name 85 = some ("StreamSigScanner", 24, .int) := by decide +kernel
theorem m13_53 : M13 53 ls (.int v :: .ref b :: st) (put b pre s A post) Q = M13 56 ls st (put b pre (ou s 12 v) A post) Q := w_put (show decode kb13 53 = .ok (.putfield 85, 3) from by decide +kernel) pf13_85 put_o (Nat.zero_le _) (by show 24 < 29; omega) rfl put_s12
theorem m13_56 : M13 56 ls [] H Q = Q none H := w_vret (show decode kb13 56 = .ok (.return_, 1) from by decide +kernel) rfl
theorem m13_57 : M13 57 [l0, .val (.int v), l2, l3] st H Q = M13 58 [l0, .val (.int v), l2, l3] (.int v :: st) H Q := w_x (show decode kb13 57 = .ok (.iload_n 1, 1) from by decide +kernel) rfl
theorem m13_58 : M13 58 [l0, l1, l2, .val (.int v)] st H Q = M13 59 [l0, l1, l2, .val (.int v)] (.int v :: st) H Q := w_x (show decode kb13 58 = .ok (.iload_n 3, 1) from by decide +kernel) rfl
theorem m13_59 : M13 59 [.val (.ref r), l1, l2, l3] st H Q = M13 60 [.val (.ref r), l1, l2, l3] (.ref r :: st) H Q := w_x (show decode kb13 59 = .ok (.aload_n 0, 1) from by decide +kernel) rfl
theorem m13_60 : M13 60 ls (.ref b :: st) (put b pre s A post) Q = M13 63 ls (.int (s 0) :: st) (put b pre s A post) Q := w_get (show decode kb13 60 = .ok (.getfield 47, 3) from by decide +kernel) gf_47 put_o rfl
theorem m13_63 : M13 63 ls (.int y :: .int x :: st) H Q = M13 64 ls (.int (x + y) :: st) H Q := w_x (show decode kb13 63 = .ok (.iadd, 1) from by decide +kernel) rfl
theorem m13_64 : M13 64 ls (.int y :: .int x :: st) H Q = if x < y then M13 78 ls st H Q else M13 67 ls st H Q := w_icmp (show decode kb13 64 = .ok (.if_icmp .lt 14, 3) from by decide +kernel) (i_lt x y) rfl
theorem m13_67 : M13 67 [.val (.ref r), l1, l2, l3] st H Q = M13 68 [.val (.ref r), l1, l2, l3] (.ref r :: st) H Q := w_x (show decode kb13 67 = .ok (.aload_n 0, 1) from by decide +kernel) rfl
theorem m13_68 : M13 68 ls ((.ref r) :: st) H Q = M13 69 ls ((.ref r) :: (.ref r) :: st) H Q := w_x (show decode kb13 68 = .ok (.dup, 1) from by decide +kernel) rfl
theorem m13_69 : M13 69 ls (.ref b :: st) (put b pre s A post) Q = M13 72 ls (.int (s 11) :: st) (put b pre s A post) Q := w_get (show decode kb13 69 = .ok (.getfield 82, 3) from by decide +kernel) gf_82 put_o rfl
theorem m13_72 : M13 72 ls st H Q = M13 73 ls (.int 1 :: st) H Q := w_con (show decode kb13 72 = .ok (.iconst 1, 1) from by decide +kernel) rfl (by decide)
theorem m13_73 : M13 73 ls (.int y :: .int x :: st) H Q = M13 74 ls (.int (x + y) :: st) H Q := w_x (show decode kb13 73 = .ok (.iadd, 1) from by decide +kernel) rfl
theorem pf13_82 : pfR tables_1 y13.cls y13.name 82 = some ("StreamSigScanner", 23, .int) := by decide +kernel
theorem m13_74 : M13 74 ls (.int v :: .ref b :: st) (put b pre s A post) Q = M13 77 ls st (put b pre (ou s 11 v) A post) Q := w_put (show decode kb13 74 = .ok (.putfield 82, 3) from by decide +kernel) pf13_82 put_o (Nat.zero_le _) (by show 23 < 29; omega) rfl put_s11
theorem m13_77 : M13 77 ls [] H Q = Q none H := w_vret (show decode kb13 77 = .ok (.return_, 1) from by decide +kernel) rfl
theorem m13_78 : M13 78 [.val (.ref r), l1, l2, l3] st H Q = M13 79 [.val (.ref r), l1, l2, l3] (.ref r :: st) H Q := w_x (show decode kb13 78 = .ok (.aload_n 0, 1) from by decide +kernel) rfl
theorem m13_79 : M13 79 ls (.ref b :: st) (put b pre s A post) Q = M13 82 ls (.ref (b + 8) :: st) (put b pre s A post) Q := w_get (show decode kb13 79 = .ok (.getfield 31, 3) from by decide +kernel) gf_31 put_o rfl
theorem m13_82 : M13 82 [l0, .val (.int v), l2, l3] st H Q = M13 83 [l0, .val (.int v), l2, l3] (.int v :: st) H Q := w_x (show decode kb13 82 = .ok (.iload_n 1, 1) from by decide +kernel) rfl
theorem m13_83 : M13 83 ls st H Q = M13 84 ls (.int 1 :: st) H Q := w_con (show decode kb13 83 = .ok (.iconst 1, 1) from by decide +kernel) rfl (by decide)
theorem m13_84  : M13 84 ls (.int v :: .int j :: .ref (b + 8) :: st) (put b pre s A post) Q = (inB j (A 7) ∧ M13 85 ls st (put b pre s (ou A 7 (setA (A 7) j (nar .boolean v))) post) Q) := w_ist (show decode kb13 84 = .ok (.bastore, 1) from by decide +kernel) rfl put_a7 (Nat.zero_le _) rfl put_w7
theorem m13_85 : M13 85 [.val (.ref r), l1, l2, l3] st H Q = M13 86 [.val (.ref r), l1, l2, l3] (.ref r :: st) H Q := w_x (show decode kb13 85 = .ok (.aload_n 0, 1) from by decide +kernel) rfl
theorem m13_86 : M13 86 ls (.ref b :: st) (put b pre s A post) Q = M13 89 ls (.ref (b + 9) :: st) (put b pre s A post) Q := w_get (show decode kb13 86 = .ok (.getfield 35, 3) from by decide +kernel) gf_35 put_o rfl
theorem m13_89 : M13 89 [l0, .val (.int v), l2, l3] st H Q = M13 90 [l0, .val (.int v), l2, l3] (.int v :: st) H Q := w_x (show decode kb13 89 = .ok (.iload_n 1, 1) from by decide +kernel) rfl
theorem m13_90 : M13 90 [l0, l1, .val (.int v), l3] st H Q = M13 91 [l0, l1, .val (.int v), l3] (.int v :: st) H Q := w_x (show decode kb13 90 = .ok (.iload_n 2, 1) from by decide +kernel) rfl
theorem m13_91  : M13 91 ls (.int v :: .int j :: .ref (b + 9) :: st) (put b pre s A post) Q = (inB j (A 8) ∧ M13 92 ls st (put b pre s (ou A 8 (setA (A 8) j v)) post) Q) := w_ist (show decode kb13 91 = .ok (.iastore, 1) from by decide +kernel) rfl put_a8 (Nat.zero_le _) rfl put_w8
theorem m13_92 : M13 92 [.val (.ref r), l1, l2, l3] st H Q = M13 93 [.val (.ref r), l1, l2, l3] (.ref r :: st) H Q := w_x (show decode kb13 92 = .ok (.aload_n 0, 1) from by decide +kernel) rfl
theorem m13_93 : M13 93 ls ((.ref r) :: st) H Q = M13 94 ls ((.ref r) :: (.ref r) :: st) H Q := w_x (show decode kb13 93 = .ok (.dup, 1) from by decide +kernel) rfl
theorem m13_94 : M13 94 ls (.ref b :: st) (put b pre s A post) Q = M13 97 ls (.int (s 8) :: st) (put b pre s A post) Q := w_get (show decode kb13 94 = .ok (.getfield 73, 3) from by decide +kernel) gf_73 put_o rfl
theorem m13_97 : M13 97 ls st H Q = M13 98 ls (.int 1 :: st) H Q := w_con (show decode kb13 97 = .ok (.iconst 1, 1) from by decide +kernel) rfl (by decide)
theorem m13_98 : M13 98 ls (.int y :: .int x :: st) H Q = M13 99 ls (.int (x + y) :: st) H Q := w_x (show decode kb13 98 = .ok (.iadd, 1) from by decide +kernel) rfl
theorem pf13_73 : pfR tables_1 y13.cls y13.name 73 = some ("StreamSigScanner", 20, .int) := by decide +kernel
theorem m13_99 : M13 99 ls (.int v :: .ref b :: st) (put b pre s A post) Q = M13 102 ls st (put b pre (ou s 8 v) A post) Q := w_put (show decode kb13 99 = .ok (.putfield 73, 3) from by decide +kernel) pf13_73 put_o (Nat.zero_le _) (by show 20 < 29; omega) rfl put_s8
theorem m13_102 : M13 102 ls [] H Q = Q none H := w_vret (show decode kb13 102 = .ok (.return_, 1) from by decide +kernel) rfl
theorem m14_0 : M14 0 ls st H Q = M14 1 ls (.int 0 :: st) H Q := w_con (show decode kb14 0 = .ok (.iconst 0, 1) from by decide +kernel) rfl (by decide)
theorem m14_1u : M14 1 [l0, .unset, l2, l3] ((.int v) :: st) H Q = M14 2 [l0, .val (.int v), l2, l3] st H Q := w_st (i := 1) (p := isI) (show decode kb14 1 = .ok (.istore_n 1, 1) from by decide +kernel) rfl rfl rfl rfl rfl rfl
theorem m14_2 : M14 2 [l0, .val (.int v), l2, l3] st H Q = M14 3 [l0, .val (.int v), l2, l3] (.int v :: st) H Q := w_x (show decode kb14 2 = .ok (.iload_n 1, 1) from by decide +kernel) rfl
theorem m14_3 : M14 3 ls st H Q = M14 6 ls (.int 256 :: st) H Q := w_con (show decode kb14 3 = .ok (.sipush 256, 3) from by decide +kernel) rfl (by decide)
theorem m14_6 : M14 6 ls (.int y :: .int x :: st) H Q = if x < y then M14 9 ls st H Q else M14 73 ls st H Q := w_icmpN (show decode kb14 6 = .ok (.if_icmp .ge 67, 3) from by decide +kernel) (i_ge x y) rfl
theorem m14_9 : M14 9 [.val (.ref r), l1, l2, l3] st H Q = M14 10 [.val (.ref r), l1, l2, l3] (.ref r :: st) H Q := w_x (show decode kb14 9 = .ok (.aload_n 0, 1) from by decide +kernel) rfl
theorem m14_10 : M14 10 ls (.ref b :: st) (put b pre s A post) Q = M14 13 ls (.int (s 7) :: st) (put b pre s A post) Q := w_get (show decode kb14 10 = .ok (.getfield 70, 3) from by decide +kernel) gf_70 put_o rfl
theorem m14_13 : M14 13 ls st H Q = M14 16 ls (.int 256 :: st) H Q := w_con (show decode kb14 13 = .ok (.sipush 256, 3) from by decide +kernel) rfl (by decide)
theorem m14_16 : M14 16 ls (.int y :: .int x :: st) H Q = if x < y then M14 19 ls st H Q else M14 31 ls st H Q := w_icmpN (show decode kb14 16 = .ok (.if_icmp .ge 15, 3) from by decide +kernel) (i_ge x y) rfl
theorem m14_19 : M14 19 [.val (.ref r), l1, l2, l3] st H Q = M14 20 [.val (.ref r), l1, l2, l3] (.ref r :: st) H Q := w_x (show decode kb14 19 = .ok (.aload_n 0, 1) from by decide +kernel) rfl
theorem m14_20 : M14 20 ls (.ref b :: st) (put b pre s A post) Q = M14 23 ls (.ref (b + 8) :: st) (put b pre s A post) Q := w_get (show decode kb14 20 = .ok (.getfield 31, 3) from by decide +kernel) gf_31 put_o rfl
theorem m14_23 : M14 23 [.val (.ref r), l1, l2, l3] st H Q = M14 24 [.val (.ref r), l1, l2, l3] (.ref r :: st) H Q := w_x (show decode kb14 23 = .ok (.aload_n 0, 1) from by decide +kernel) rfl
theorem m14_24 : M14 24 ls (.ref b :: st) (put b pre s A post) Q = M14 27 ls (.int (s 7) :: st) (put b pre s A post) Q := w_get (show decode kb14 24 = .ok (.getfield 70, 3) from by decide +kernel) gf_70 put_o rfl
theorem m14_27  : M14 27 ls (.int j :: .ref (b + 8) :: st) (put b pre s A post) Q = (inB j (A 7) ∧ M14 28 ls (.int (getA (A 7) j) :: st) (put b pre s A post) Q) := w_ild (show decode kb14 27 = .ok (.baload, 1) from by decide +kernel) rfl put_a7
theorem m14_28 : M14 28 ls (.int x :: st) H Q = if x = 0 then M14 31 ls st H Q else M14 32 ls st H Q := w_ifN (show decode kb14 28 = .ok (.ifCond .ne 4, 3) from by decide +kernel) (z_ne x) rfl
theorem m14_31 : M14 31 ls [] H Q = Q none H := w_vret (show decode kb14 31 = .ok (.return_, 1) from by decide +kernel) rfl
theorem m14_32 : M14 32 [.val (.ref r), l1, l2, l3] st H Q = M14 33 [.val (.ref r), l1, l2, l3] (.ref r :: st) H Q := w_x (show decode kb14 32 = .ok (.aload_n 0, 1) from by decide +kernel) rfl
theorem m14_33 : M14 33 ls (.ref b :: st) (put b pre s A post) Q = M14 36 ls (.int (s 7) :: st) (put b pre s A post) Q := w_get (show decode kb14 33 = .ok (.getfield 70, 3) from by decide +kernel) gf_70 put_o rfl
theorem m14_36u : M14 36 [l0, l1, .unset, l3] ((.int v) :: st) H Q = M14 37 [l0, l1, .val (.int v), l3] st H Q := w_st (i := 2) (p := isI) (show decode kb14 36 = .ok (.istore_n 2, 1) from by decide +kernel) rfl rfl rfl rfl rfl rfl
theorem m14_36i : M14 36 [l0, l1, .val (.int z), l3] ((.int v) :: st) H Q = M14 37 [l0, l1, .val (.int v), l3] st H Q := w_st (i := 2) (p := isI) (show decode kb14 36 = .ok (.istore_n 2, 1) from by decide +kernel) rfl rfl rfl rfl rfl rfl
theorem m14_36r : M14 36 [l0, l1, .val (.ref q), l3] ((.int v) :: st) H Q = M14 37 [l0, l1, .val (.int v), l3] st H Q := w_st (i := 2) (p := isI) (show decode kb14 36 = .ok (.istore_n 2, 1) from by decide +kernel) rfl rfl rfl rfl rfl rfl
theorem m14_36g (h : okS l2) : M14 36 [l0, l1, l2, l3] ((.int v) :: st) H Q = M14 37 [l0, l1, .val (.int v), l3] st H Q := by rcases h with rfl | ⟨z, rfl⟩ <;> first | exact m14_36u | exact m14_36i
theorem m14_37 : M14 37 [.val (.ref r), l1, l2, l3] st H Q = M14 38 [.val (.ref r), l1, l2, l3] (.ref r :: st) H Q := w_x (show decode kb14 37 = .ok (.aload_n 0, 1) from by decide +kernel) rfl
theorem m14_38 : M14 38 ls (.ref b :: st) (put b pre s A post) Q = M14 41 ls (.ref (b + 9) :: st) (put b pre s A post) Q := w_get (show decode kb14 38 = .ok (.getfield 35, 3) from by decide +kernel) gf_35 put_o rfl
theorem m14_41 : M14 41 [l0, l1, .val (.int v), l3] st H Q = M14 42 [l0, l1, .val (.int v), l3] (.int v :: st) H Q := w_x (show decode kb14 41 = .ok (.iload_n 2, 1) from by decide +kernel) rfl
theorem m14_42  : M14 42 ls (.int j :: .ref (b + 9) :: st) (put b pre s A post) Q = (inB j (A 8) ∧ M14 43 ls (.int (getA (A 8) j) :: st) (put b pre s A post) Q) := w_ild (show decode kb14 42 = .ok (.iaload, 1) from by decide +kernel) rfl put_a8
theorem m14_43u : M14 43 [l0, l1, l2, .unset] ((.int v) :: st) H Q = M14 44 [l0, l1, l2, .val (.int v)] st H Q := w_st (i := 3) (p := isI) (show decode kb14 43 = .ok (.istore_n 3, 1) from by decide +kernel) rfl rfl rfl rfl rfl rfl
theorem m14_43i : M14 43 [l0, l1, l2, .val (.int z)] ((.int v) :: st) H Q = M14 44 [l0, l1, l2, .val (.int v)] st H Q := w_st (i := 3) (p := isI) (show decode kb14 43 = .ok (.istore_n 3, 1) from by decide +kernel) rfl rfl rfl rfl rfl rfl
theorem m14_43r : M14 43 [l0, l1, l2, .val (.ref q)] ((.int v) :: st) H Q = M14 44 [l0, l1, l2, .val (.int v)] st H Q := w_st (i := 3) (p := isI) (show decode kb14 43 = .ok (.istore_n 3, 1) from by decide +kernel) rfl rfl rfl rfl rfl rfl
theorem m14_43g (h : okS l3) : M14 43 [l0, l1, l2, l3] ((.int v) :: st) H Q = M14 44 [l0, l1, l2, .val (.int v)] st H Q := by rcases h with rfl | ⟨z, rfl⟩ <;> first | exact m14_43u | exact m14_43i
theorem m14_44 : M14 44 [.val (.ref r), l1, l2, l3] st H Q = M14 45 [.val (.ref r), l1, l2, l3] (.ref r :: st) H Q := w_x (show decode kb14 44 = .ok (.aload_n 0, 1) from by decide +kernel) rfl
theorem m14_45 : M14 45 [l0, l1, .val (.int v), l3] st H Q = M14 46 [l0, l1, .val (.int v), l3] (.int v :: st) H Q := w_x (show decode kb14 45 = .ok (.iload_n 2, 1) from by decide +kernel) rfl
theorem m14_46 : M14 46 ls st H Q = M14 47 ls (.int 1 :: st) H Q := w_con (show decode kb14 46 = .ok (.iconst 1, 1) from by decide +kernel) rfl (by decide)
theorem m14_47 : M14 47 ls (.int y :: .int x :: st) H Q = M14 48 ls (.int (x + y) :: st) H Q := w_x (show decode kb14 47 = .ok (.iadd, 1) from by decide +kernel) rfl
theorem pf14_70 : pfR tables_1 y14.cls y14.name 70 = some ("StreamSigScanner", 19, .int) := by decide +kernel
theorem m14_48 : M14 48 ls (.int v :: .ref b :: st) (put b pre s A post) Q = M14 51 ls st (put b pre (ou s 7 v) A post) Q := w_put (show decode kb14 48 = .ok (.putfield 70, 3) from by decide +kernel) pf14_70 put_o (Nat.zero_le _) (by show 19 < 29; omega) rfl put_s7
theorem m14_51 : M14 51 [.val (.ref r), l1, l2, l3] st H Q = M14 52 [.val (.ref r), l1, l2, l3] (.ref r :: st) H Q := w_x (show decode kb14 51 = .ok (.aload_n 0, 1) from by decide +kernel) rfl
theorem m14_52 : M14 52 ls ((.ref r) :: st) H Q = M14 53 ls ((.ref r) :: (.ref r) :: st) H Q := w_x (show decode kb14 52 = .ok (.dup, 1) from by decide +kernel) rfl
theorem m14_53 : M14 53 ls (.ref b :: st) (put b pre s A post) Q = M14 56 ls (.int (s 8) :: st) (put b pre s A post) Q := w_get (show decode kb14 53 = .ok (.getfield 73, 3) from by decide +kernel) gf_73 put_o rfl
theorem m14_56 : M14 56 ls st H Q = M14 57 ls (.int 1 :: st) H Q := w_con (show decode kb14 56 = .ok (.iconst 1, 1) from by decide +kernel) rfl (by decide)
theorem m14_57 : M14 57 ls (.int y :: .int x :: st) H Q = M14 58 ls (.int (x - y) :: st) H Q := w_x (show decode kb14 57 = .ok (.isub, 1) from by decide +kernel) rfl
theorem pf14_73 : pfR tables_1 y14.cls y14.name 73 = some ("StreamSigScanner", 20, .int) := by decide +kernel
theorem m14_58 : M14 58 ls (.int v :: .ref b :: st) (put b pre s A post) Q = M14 61 ls st (put b pre (ou s 8 v) A post) Q := w_put (show decode kb14 58 = .ok (.putfield 73, 3) from by decide +kernel) pf14_73 put_o (Nat.zero_le _) (by show 20 < 29; omega) rfl put_s8
theorem m14_61 : M14 61 [.val (.ref r), l1, l2, l3] st H Q = M14 62 [.val (.ref r), l1, l2, l3] (.ref r :: st) H Q := w_x (show decode kb14 61 = .ok (.aload_n 0, 1) from by decide +kernel) rfl
theorem m14_62 : M14 62 [l0, l1, .val (.int v), l3] st H Q = M14 63 [l0, l1, .val (.int v), l3] (.int v :: st) H Q := w_x (show decode kb14 62 = .ok (.iload_n 2, 1) from by decide +kernel) rfl
theorem m14_63 : M14 63 [l0, l1, l2, .val (.int v)] st H Q = M14 64 [l0, l1, l2, .val (.int v)] (.int v :: st) H Q := w_x (show decode kb14 63 = .ok (.iload_n 3, 1) from by decide +kernel) rfl
theorem cr14_127 : vR tables_1 dn y14 127 = some (true, y16, prog_1_method_14_code, 7, none, 2, 0) := pR_of (cR_of (by decide +kernel) rc_16 dn_16 dn_14 (sig := ⟨[.int, .int], none⟩) (by decide +kernel) (by decide +kernel) rfl rfl) (by decide +kernel) (by decide +kernel)
theorem m14_64 (a0 : Int32) (a1 : Int32) : M14 64 ls [.int a1, .int a0, .ref b] (put b pre s A post) Q = M16 0 [.val (.ref b), .val (.int a0), .val (.int a1), .unset, .unset, .unset, .unset] [] (put b pre s A post) (fun v H1 => M14 67 ls (v.toList ++ []) H1 Q) := w_virt (as := [.int a1, .int a0]) (rest := []) (a := b) (show decode kb14 64 = .ok (.invokevirtual 127, 3) from by decide +kernel) cr14_127 put_o rfl rfl (Nat.le_of_ble_eq_true rfl) (by show 3 ≤ 7; omega) rfl
theorem m14_67 : M14 67 [l0, .val (.int v), l2, l3] st H Q = M14 70 [l0, .val (.int (v + 1)), l2, l3] st H Q := w_iinc (show decode kb14 67 = .ok (.iinc 1 1, 3) from by decide +kernel) rfl (by decide) rfl
theorem m14_70 : M14 70 ls st H Q = M14 2 ls st H Q := w_x (show decode kb14 70 = .ok (.goto (-68), 3) from by decide +kernel) rfl
theorem m14_73 : M14 73 ls [] H Q = Q none H := w_vret (show decode kb14 73 = .ok (.return_, 1) from by decide +kernel) rfl
theorem m15_0 : M15 0 [l0, .val (.int v)] st H Q = M15 1 [l0, .val (.int v)] (.int v :: st) H Q := w_x (show decode kb15 0 = .ok (.iload_n 1, 1) from by decide +kernel) rfl
theorem m15_1_0 : M15 1 ls (.int 0 :: st) H Q = M15 76 ls st H Q := w_x (show decode kb15 1 = .ok (.tableswitch 180 0 14 #[75, 80, 85, 90, 95, 100, 105, 110, 115, 120, 129, 138, 154, 170, 175], 75) from by decide +kernel) rfl
theorem m15_1_1 : M15 1 ls (.int 1 :: st) H Q = M15 81 ls st H Q := w_x (show decode kb15 1 = .ok (.tableswitch 180 0 14 #[75, 80, 85, 90, 95, 100, 105, 110, 115, 120, 129, 138, 154, 170, 175], 75) from by decide +kernel) rfl
theorem m15_1_2 : M15 1 ls (.int 2 :: st) H Q = M15 86 ls st H Q := w_x (show decode kb15 1 = .ok (.tableswitch 180 0 14 #[75, 80, 85, 90, 95, 100, 105, 110, 115, 120, 129, 138, 154, 170, 175], 75) from by decide +kernel) rfl
theorem m15_1_3 : M15 1 ls (.int 3 :: st) H Q = M15 91 ls st H Q := w_x (show decode kb15 1 = .ok (.tableswitch 180 0 14 #[75, 80, 85, 90, 95, 100, 105, 110, 115, 120, 129, 138, 154, 170, 175], 75) from by decide +kernel) rfl
theorem m15_1_4 : M15 1 ls (.int 4 :: st) H Q = M15 96 ls st H Q := w_x (show decode kb15 1 = .ok (.tableswitch 180 0 14 #[75, 80, 85, 90, 95, 100, 105, 110, 115, 120, 129, 138, 154, 170, 175], 75) from by decide +kernel) rfl
theorem m15_1_5 : M15 1 ls (.int 5 :: st) H Q = M15 101 ls st H Q := w_x (show decode kb15 1 = .ok (.tableswitch 180 0 14 #[75, 80, 85, 90, 95, 100, 105, 110, 115, 120, 129, 138, 154, 170, 175], 75) from by decide +kernel) rfl
theorem m15_1_6 : M15 1 ls (.int 6 :: st) H Q = M15 106 ls st H Q := w_x (show decode kb15 1 = .ok (.tableswitch 180 0 14 #[75, 80, 85, 90, 95, 100, 105, 110, 115, 120, 129, 138, 154, 170, 175], 75) from by decide +kernel) rfl
theorem m15_1_7 : M15 1 ls (.int 7 :: st) H Q = M15 111 ls st H Q := w_x (show decode kb15 1 = .ok (.tableswitch 180 0 14 #[75, 80, 85, 90, 95, 100, 105, 110, 115, 120, 129, 138, 154, 170, 175], 75) from by decide +kernel) rfl
theorem m15_1_8 : M15 1 ls (.int 8 :: st) H Q = M15 116 ls st H Q := w_x (show decode kb15 1 = .ok (.tableswitch 180 0 14 #[75, 80, 85, 90, 95, 100, 105, 110, 115, 120, 129, 138, 154, 170, 175], 75) from by decide +kernel) rfl
theorem m15_1_9 : M15 1 ls (.int 9 :: st) H Q = M15 121 ls st H Q := w_x (show decode kb15 1 = .ok (.tableswitch 180 0 14 #[75, 80, 85, 90, 95, 100, 105, 110, 115, 120, 129, 138, 154, 170, 175], 75) from by decide +kernel) rfl
theorem m15_1_10 : M15 1 ls (.int 10 :: st) H Q = M15 130 ls st H Q := w_x (show decode kb15 1 = .ok (.tableswitch 180 0 14 #[75, 80, 85, 90, 95, 100, 105, 110, 115, 120, 129, 138, 154, 170, 175], 75) from by decide +kernel) rfl
theorem m15_1_11 : M15 1 ls (.int 11 :: st) H Q = M15 139 ls st H Q := w_x (show decode kb15 1 = .ok (.tableswitch 180 0 14 #[75, 80, 85, 90, 95, 100, 105, 110, 115, 120, 129, 138, 154, 170, 175], 75) from by decide +kernel) rfl
theorem m15_1_12 : M15 1 ls (.int 12 :: st) H Q = M15 155 ls st H Q := w_x (show decode kb15 1 = .ok (.tableswitch 180 0 14 #[75, 80, 85, 90, 95, 100, 105, 110, 115, 120, 129, 138, 154, 170, 175], 75) from by decide +kernel) rfl
theorem m15_1_13 : M15 1 ls (.int 13 :: st) H Q = M15 171 ls st H Q := w_x (show decode kb15 1 = .ok (.tableswitch 180 0 14 #[75, 80, 85, 90, 95, 100, 105, 110, 115, 120, 129, 138, 154, 170, 175], 75) from by decide +kernel) rfl
theorem m15_1_14 : M15 1 ls (.int 14 :: st) H Q = M15 176 ls st H Q := w_x (show decode kb15 1 = .ok (.tableswitch 180 0 14 #[75, 80, 85, 90, 95, 100, 105, 110, 115, 120, 129, 138, 154, 170, 175], 75) from by decide +kernel) rfl
theorem m15_1_d (hx : x.toInt < 0 ∨ x.toInt > 14) : M15 1 ls (.int x :: st) H Q = M15 181 ls st H Q := w_x (show decode kb15 1 = .ok (.tableswitch 180 0 14 #[75, 80, 85, 90, 95, 100, 105, 110, 115, 120, 129, 138, 154, 170, 175], 75) from by decide +kernel) (by simp only [xstep, sw, hx, if_true]; rfl)
theorem m15_76 : M15 76 [.val (.ref r), l1] st H Q = M15 77 [.val (.ref r), l1] (.ref r :: st) H Q := w_x (show decode kb15 76 = .ok (.aload_n 0, 1) from by decide +kernel) rfl
theorem m15_77 : M15 77 ls (.ref b :: st) (put b pre s A post) Q = M15 80 ls (.int (s 7) :: st) (put b pre s A post) Q := w_get (show decode kb15 77 = .ok (.getfield 70, 3) from by decide +kernel) gf_70 put_o rfl
theorem m15_80 : M15 80 ls (.int z :: st) H Q = Q (some (.int z)) H := w_iret (show decode kb15 80 = .ok (.ireturn, 1) from by decide +kernel) rfl
theorem m15_81 : M15 81 [.val (.ref r), l1] st H Q = M15 82 [.val (.ref r), l1] (.ref r :: st) H Q := w_x (show decode kb15 81 = .ok (.aload_n 0, 1) from by decide +kernel) rfl
theorem m15_82 : M15 82 ls (.ref b :: st) (put b pre s A post) Q = M15 85 ls (.int (s 8) :: st) (put b pre s A post) Q := w_get (show decode kb15 82 = .ok (.getfield 73, 3) from by decide +kernel) gf_73 put_o rfl
theorem m15_85 : M15 85 ls (.int z :: st) H Q = Q (some (.int z)) H := w_iret (show decode kb15 85 = .ok (.ireturn, 1) from by decide +kernel) rfl
theorem m15_86 : M15 86 [.val (.ref r), l1] st H Q = M15 87 [.val (.ref r), l1] (.ref r :: st) H Q := w_x (show decode kb15 86 = .ok (.aload_n 0, 1) from by decide +kernel) rfl
theorem m15_87 : M15 87 ls (.ref b :: st) (put b pre s A post) Q = M15 90 ls (.int (s 9) :: st) (put b pre s A post) Q := w_get (show decode kb15 87 = .ok (.getfield 76, 3) from by decide +kernel) gf_76 put_o rfl
theorem m15_90 : M15 90 ls (.int z :: st) H Q = Q (some (.int z)) H := w_iret (show decode kb15 90 = .ok (.ireturn, 1) from by decide +kernel) rfl
theorem m15_91 : M15 91 [.val (.ref r), l1] st H Q = M15 92 [.val (.ref r), l1] (.ref r :: st) H Q := w_x (show decode kb15 91 = .ok (.aload_n 0, 1) from by decide +kernel) rfl
theorem m15_92 : M15 92 ls (.ref b :: st) (put b pre s A post) Q = M15 95 ls (.int (s 10) :: st) (put b pre s A post) Q := w_get (show decode kb15 92 = .ok (.getfield 79, 3) from by decide +kernel) gf_79 put_o rfl
theorem m15_95 : M15 95 ls (.int z :: st) H Q = Q (some (.int z)) H := w_iret (show decode kb15 95 = .ok (.ireturn, 1) from by decide +kernel) rfl
theorem m15_96 : M15 96 [.val (.ref r), l1] st H Q = M15 97 [.val (.ref r), l1] (.ref r :: st) H Q := w_x (show decode kb15 96 = .ok (.aload_n 0, 1) from by decide +kernel) rfl
theorem m15_97 : M15 97 ls (.ref b :: st) (put b pre s A post) Q = M15 100 ls (.int (s 11) :: st) (put b pre s A post) Q := w_get (show decode kb15 97 = .ok (.getfield 82, 3) from by decide +kernel) gf_82 put_o rfl
theorem m15_100 : M15 100 ls (.int z :: st) H Q = Q (some (.int z)) H := w_iret (show decode kb15 100 = .ok (.ireturn, 1) from by decide +kernel) rfl
theorem m15_101 : M15 101 [.val (.ref r), l1] st H Q = M15 102 [.val (.ref r), l1] (.ref r :: st) H Q := w_x (show decode kb15 101 = .ok (.aload_n 0, 1) from by decide +kernel) rfl
theorem m15_102 : M15 102 ls (.ref b :: st) (put b pre s A post) Q = M15 105 ls (.int (s 16) :: st) (put b pre s A post) Q := w_get (show decode kb15 102 = .ok (.getfield 97, 3) from by decide +kernel) gf_97 put_o rfl
theorem m15_105 : M15 105 ls (.int z :: st) H Q = Q (some (.int z)) H := w_iret (show decode kb15 105 = .ok (.ireturn, 1) from by decide +kernel) rfl
theorem m15_106 : M15 106 [.val (.ref r), l1] st H Q = M15 107 [.val (.ref r), l1] (.ref r :: st) H Q := w_x (show decode kb15 106 = .ok (.aload_n 0, 1) from by decide +kernel) rfl
theorem m15_107 : M15 107 ls (.ref b :: st) (put b pre s A post) Q = M15 110 ls (.int (s 2) :: st) (put b pre s A post) Q := w_get (show decode kb15 107 = .ok (.getfield 55, 3) from by decide +kernel) gf_55 put_o rfl
theorem m15_110 : M15 110 ls (.int z :: st) H Q = Q (some (.int z)) H := w_iret (show decode kb15 110 = .ok (.ireturn, 1) from by decide +kernel) rfl
theorem m15_111 : M15 111 [.val (.ref r), l1] st H Q = M15 112 [.val (.ref r), l1] (.ref r :: st) H Q := w_x (show decode kb15 111 = .ok (.aload_n 0, 1) from by decide +kernel) rfl
theorem m15_112 : M15 112 ls (.ref b :: st) (put b pre s A post) Q = M15 115 ls (.int (s 3) :: st) (put b pre s A post) Q := w_get (show decode kb15 112 = .ok (.getfield 58, 3) from by decide +kernel) gf_58 put_o rfl
theorem m15_115 : M15 115 ls (.int z :: st) H Q = Q (some (.int z)) H := w_iret (show decode kb15 115 = .ok (.ireturn, 1) from by decide +kernel) rfl
theorem m15_116 : M15 116 [.val (.ref r), l1] st H Q = M15 117 [.val (.ref r), l1] (.ref r :: st) H Q := w_x (show decode kb15 116 = .ok (.aload_n 0, 1) from by decide +kernel) rfl
theorem m15_117 : M15 117 ls (.ref b :: st) (put b pre s A post) Q = M15 120 ls (.int (s 4) :: st) (put b pre s A post) Q := w_get (show decode kb15 117 = .ok (.getfield 61, 3) from by decide +kernel) gf_61 put_o rfl
theorem m15_120 : M15 120 ls (.int z :: st) H Q = Q (some (.int z)) H := w_iret (show decode kb15 120 = .ok (.ireturn, 1) from by decide +kernel) rfl
theorem m15_121 : M15 121 [.val (.ref r), l1] st H Q = M15 122 [.val (.ref r), l1] (.ref r :: st) H Q := w_x (show decode kb15 121 = .ok (.aload_n 0, 1) from by decide +kernel) rfl
theorem m15_122 : M15 122 [.val (.ref r), l1] st H Q = M15 123 [.val (.ref r), l1] (.ref r :: st) H Q := w_x (show decode kb15 122 = .ok (.aload_n 0, 1) from by decide +kernel) rfl
theorem m15_123 : M15 123 ls (.ref b :: st) (put b pre s A post) Q = M15 126 ls (.int (s 1) :: st) (put b pre s A post) Q := w_get (show decode kb15 123 = .ok (.getfield 51, 3) from by decide +kernel) gf_51 put_o rfl
theorem m15_130 : M15 130 [.val (.ref r), l1] st H Q = M15 131 [.val (.ref r), l1] (.ref r :: st) H Q := w_x (show decode kb15 130 = .ok (.aload_n 0, 1) from by decide +kernel) rfl
theorem m15_131 : M15 131 [.val (.ref r), l1] st H Q = M15 132 [.val (.ref r), l1] (.ref r :: st) H Q := w_x (show decode kb15 131 = .ok (.aload_n 0, 1) from by decide +kernel) rfl
theorem m15_132 : M15 132 ls (.ref b :: st) (put b pre s A post) Q = M15 135 ls (.int (s 13) :: st) (put b pre s A post) Q := w_get (show decode kb15 132 = .ok (.getfield 88, 3) from by decide +kernel) gf_88 put_o rfl
theorem m15_139 : M15 139 [.val (.ref r), l1] st H Q = M15 140 [.val (.ref r), l1] (.ref r :: st) H Q := w_x (show decode kb15 139 = .ok (.aload_n 0, 1) from by decide +kernel) rfl
theorem m15_140 : M15 140 ls (.ref b :: st) (put b pre s A post) Q = M15 143 ls (.int (s 13) :: st) (put b pre s A post) Q := w_get (show decode kb15 140 = .ok (.getfield 88, 3) from by decide +kernel) gf_88 put_o rfl
theorem m15_143 : M15 143 ls (.int x :: st) H Q = if x = 0 then M15 153 ls st H Q else M15 146 ls st H Q := w_if (show decode kb15 143 = .ok (.ifCond .eq 10, 3) from by decide +kernel) (z_eq x) rfl
theorem m15_146 : M15 146 [.val (.ref r), l1] st H Q = M15 147 [.val (.ref r), l1] (.ref r :: st) H Q := w_x (show decode kb15 146 = .ok (.aload_n 0, 1) from by decide +kernel) rfl
theorem m15_147 : M15 147 ls (.ref b :: st) (put b pre s A post) Q = M15 150 ls (.int (s 14) :: st) (put b pre s A post) Q := w_get (show decode kb15 147 = .ok (.getfield 91, 3) from by decide +kernel) gf_91 put_o rfl
theorem m15_150 : M15 150 ls st H Q = M15 154 ls st H Q := w_x (show decode kb15 150 = .ok (.goto 4, 3) from by decide +kernel) rfl
theorem m15_153 : M15 153 ls st H Q = M15 154 ls (.int (-1) :: st) H Q := w_con (show decode kb15 153 = .ok (.iconst (-1), 1) from by decide +kernel) rfl (by decide)
theorem m15_154 : M15 154 ls (.int z :: st) H Q = Q (some (.int z)) H := w_iret (show decode kb15 154 = .ok (.ireturn, 1) from by decide +kernel) rfl
theorem m15_155 : M15 155 [.val (.ref r), l1] st H Q = M15 156 [.val (.ref r), l1] (.ref r :: st) H Q := w_x (show decode kb15 155 = .ok (.aload_n 0, 1) from by decide +kernel) rfl
theorem m15_156 : M15 156 ls (.ref b :: st) (put b pre s A post) Q = M15 159 ls (.int (s 13) :: st) (put b pre s A post) Q := w_get (show decode kb15 156 = .ok (.getfield 88, 3) from by decide +kernel) gf_88 put_o rfl
theorem m15_159 : M15 159 ls (.int x :: st) H Q = if x = 0 then M15 169 ls st H Q else M15 162 ls st H Q := w_if (show decode kb15 159 = .ok (.ifCond .eq 10, 3) from by decide +kernel) (z_eq x) rfl
theorem m15_162 : M15 162 [.val (.ref r), l1] st H Q = M15 163 [.val (.ref r), l1] (.ref r :: st) H Q := w_x (show decode kb15 162 = .ok (.aload_n 0, 1) from by decide +kernel) rfl
theorem m15_163 : M15 163 ls (.ref b :: st) (put b pre s A post) Q = M15 166 ls (.int (s 15) :: st) (put b pre s A post) Q := w_get (show decode kb15 163 = .ok (.getfield 94, 3) from by decide +kernel) gf_94 put_o rfl
theorem m15_166 : M15 166 ls st H Q = M15 170 ls st H Q := w_x (show decode kb15 166 = .ok (.goto 4, 3) from by decide +kernel) rfl
theorem m15_169 : M15 169 ls st H Q = M15 170 ls (.int 0 :: st) H Q := w_con (show decode kb15 169 = .ok (.iconst 0, 1) from by decide +kernel) rfl (by decide)
theorem m15_170 : M15 170 ls (.int z :: st) H Q = Q (some (.int z)) H := w_iret (show decode kb15 170 = .ok (.ireturn, 1) from by decide +kernel) rfl
theorem m15_171 : M15 171 [.val (.ref r), l1] st H Q = M15 172 [.val (.ref r), l1] (.ref r :: st) H Q := w_x (show decode kb15 171 = .ok (.aload_n 0, 1) from by decide +kernel) rfl
theorem m15_172 : M15 172 ls (.ref b :: st) (put b pre s A post) Q = M15 175 ls (.int (s 12) :: st) (put b pre s A post) Q := w_get (show decode kb15 172 = .ok (.getfield 85, 3) from by decide +kernel) gf_85 put_o rfl
theorem m15_175 : M15 175 ls (.int z :: st) H Q = Q (some (.int z)) H := w_iret (show decode kb15 175 = .ok (.ireturn, 1) from by decide +kernel) rfl
theorem m15_176 : M15 176 [.val (.ref r), l1] st H Q = M15 177 [.val (.ref r), l1] (.ref r :: st) H Q := w_x (show decode kb15 176 = .ok (.aload_n 0, 1) from by decide +kernel) rfl
theorem m15_177 : M15 177 ls (.ref b :: st) (put b pre s A post) Q = M15 180 ls (.int (s 0) :: st) (put b pre s A post) Q := w_get (show decode kb15 177 = .ok (.getfield 47, 3) from by decide +kernel) gf_47 put_o rfl
theorem m15_180 : M15 180 ls (.int z :: st) H Q = Q (some (.int z)) H := w_iret (show decode kb15 180 = .ok (.ireturn, 1) from by decide +kernel) rfl
theorem m15_181 : M15 181 ls st H Q = M15 182 ls (.int (-1) :: st) H Q := w_con (show decode kb15 181 = .ok (.iconst (-1), 1) from by decide +kernel) rfl (by decide)
theorem m15_182 : M15 182 ls (.int z :: st) H Q = Q (some (.int z)) H := w_iret (show decode kb15 182 = .ok (.ireturn, 1) from by decide +kernel) rfl
theorem m16_0 : M16 0 [.val (.ref r), l1, l2, l3, l4, l5, l6] st H Q = M16 1 [.val (.ref r), l1, l2, l3, l4, l5, l6] (.ref r :: st) H Q := w_x (show decode kb16 0 = .ok (.aload_n 0, 1) from by decide +kernel) rfl
theorem m16_1 : M16 1 ls (.ref b :: st) (put b pre s A post) Q = M16 4 ls (.int (s 6) :: st) (put b pre s A post) Q := w_get (show decode kb16 1 = .ok (.getfield 67, 3) from by decide +kernel) gf_67 put_o rfl
theorem m16_4 : M16 4 ls st H Q = M16 7 ls (.int 256 :: st) H Q := w_con (show decode kb16 4 = .ok (.sipush 256, 3) from by decide +kernel) rfl (by decide)
theorem m16_7 : M16 7 ls (.int y :: .int x :: st) H Q = M16 8 ls (.int (x * y) :: st) H Q := w_x (show decode kb16 7 = .ok (.imul, 1) from by decide +kernel) rfl
theorem m16_8 : M16 8 [l0, l1, .val (.int v), l3, l4, l5, l6] st H Q = M16 9 [l0, l1, .val (.int v), l3, l4, l5, l6] (.int v :: st) H Q := w_x (show decode kb16 8 = .ok (.iload_n 2, 1) from by decide +kernel) rfl
theorem m16_9 : M16 9 ls (.int y :: .int x :: st) H Q = M16 10 ls (.int (x + y) :: st) H Q := w_x (show decode kb16 9 = .ok (.iadd, 1) from by decide +kernel) rfl
theorem m16_10u : M16 10 [l0, l1, l2, .unset, l4, l5, l6] ((.int v) :: st) H Q = M16 11 [l0, l1, l2, .val (.int v), l4, l5, l6] st H Q := w_st (i := 3) (p := isI) (show decode kb16 10 = .ok (.istore_n 3, 1) from by decide +kernel) rfl rfl rfl rfl rfl rfl
theorem m16_11 : M16 11 [l0, l1, l2, .val (.int v), l4, l5, l6] st H Q = M16 12 [l0, l1, l2, .val (.int v), l4, l5, l6] (.int v :: st) H Q := w_x (show decode kb16 11 = .ok (.iload_n 3, 1) from by decide +kernel) rfl
theorem m16_12 : M16 12 ls (.int x :: st) H Q = if x < 0 then M16 22 ls st H Q else M16 15 ls st H Q := w_if (show decode kb16 12 = .ok (.ifCond .lt 10, 3) from by decide +kernel) (z_lt x) rfl
theorem m16_15 : M16 15 [l0, l1, l2, .val (.int v), l4, l5, l6] st H Q = M16 16 [l0, l1, l2, .val (.int v), l4, l5, l6] (.int v :: st) H Q := w_x (show decode kb16 15 = .ok (.iload_n 3, 1) from by decide +kernel) rfl
theorem m16_16 : M16 16 ls st H Q = M16 19 ls (.int 16640 :: st) H Q := w_con (show decode kb16 16 = .ok (.sipush 16640, 3) from by decide +kernel) rfl (by decide)
theorem m16_19 : M16 19 ls (.int y :: .int x :: st) H Q = if x < y then M16 28 ls st H Q else M16 22 ls st H Q := w_icmp (show decode kb16 19 = .ok (.if_icmp .lt 9, 3) from by decide +kernel) (i_lt x y) rfl
theorem m16_22 : M16 22 [.val (.ref r), l1, l2, l3, l4, l5, l6] st H Q = M16 23 [.val (.ref r), l1, l2, l3, l4, l5, l6] (.ref r :: st) H Q := w_x (show decode kb16 22 = .ok (.aload_n 0, 1) from by decide +kernel) rfl
theorem m16_23 : M16 23 ls st H Q = M16 24 ls (.int 0 :: st) H Q := w_con (show decode kb16 23 = .ok (.iconst 0, 1) from by decide +kernel) rfl (by decide)
theorem pf16_67 : pfR tables_1 y16.cls y16.name 67 = some ("StreamSigScanner", 18, .int) := by decide +kernel
theorem m16_24 : M16 24 ls (.int v :: .ref b :: st) (put b pre s A post) Q = M16 27 ls st (put b pre (ou s 6 v) A post) Q := w_put (show decode kb16 24 = .ok (.putfield 67, 3) from by decide +kernel) pf16_67 put_o (Nat.zero_le _) (by show 18 < 29; omega) rfl put_s6
theorem m16_27 : M16 27 ls [] H Q = Q none H := w_vret (show decode kb16 27 = .ok (.return_, 1) from by decide +kernel) rfl
theorem m16_28 : M16 28 [.val (.ref r), l1, l2, l3, l4, l5, l6] st H Q = M16 29 [.val (.ref r), l1, l2, l3, l4, l5, l6] (.ref r :: st) H Q := w_x (show decode kb16 28 = .ok (.aload_n 0, 1) from by decide +kernel) rfl
theorem m16_29 : M16 29 ls (.ref b :: st) (put b pre s A post) Q = M16 32 ls (.ref (b + 4) :: st) (put b pre s A post) Q := w_get (show decode kb16 29 = .ok (.getfield 19, 3) from by decide +kernel) gf_19 put_o rfl
theorem m16_32 : M16 32 [l0, l1, l2, .val (.int v), l4, l5, l6] st H Q = M16 33 [l0, l1, l2, .val (.int v), l4, l5, l6] (.int v :: st) H Q := w_x (show decode kb16 32 = .ok (.iload_n 3, 1) from by decide +kernel) rfl
theorem m16_33  : M16 33 ls (.int j :: .ref (b + 4) :: st) (put b pre s A post) Q = (inB j (A 3) ∧ M16 34 ls (.int (getA (A 3) j) :: st) (put b pre s A post) Q) := w_ild (show decode kb16 33 = .ok (.iaload, 1) from by decide +kernel) rfl put_a3
theorem m16_34u : M16 34 [l0, l1, l2, l3, .unset, l5, l6] ((.int v) :: st) H Q = M16 36 [l0, l1, l2, l3, .val (.int v), l5, l6] st H Q := w_st (i := 4) (p := isI) (show decode kb16 34 = .ok (.istore 4, 2) from by decide +kernel) rfl rfl rfl rfl rfl rfl
theorem m16_36 : M16 36 [l0, l1, l2, l3, .val (.int v), l5, l6] st H Q = M16 38 [l0, l1, l2, l3, .val (.int v), l5, l6] (.int v :: st) H Q := w_x (show decode kb16 36 = .ok (.iload 4, 2) from by decide +kernel) rfl
theorem m16_38 : M16 38 ls (.int x :: st) H Q = if x < 0 then M16 48 ls st H Q else M16 41 ls st H Q := w_if (show decode kb16 38 = .ok (.ifCond .lt 10, 3) from by decide +kernel) (z_lt x) rfl
theorem m16_41 : M16 41 [l0, l1, l2, l3, .val (.int v), l5, l6] st H Q = M16 43 [l0, l1, l2, l3, .val (.int v), l5, l6] (.int v :: st) H Q := w_x (show decode kb16 41 = .ok (.iload 4, 2) from by decide +kernel) rfl
theorem m16_43 : M16 43 ls st H Q = M16 45 ls (.int 65 :: st) H Q := w_con (show decode kb16 43 = .ok (.bipush 65, 2) from by decide +kernel) rfl (by decide)
theorem m16_45 : M16 45 ls (.int y :: .int x :: st) H Q = if x < y then M16 51 ls st H Q else M16 48 ls st H Q := w_icmp (show decode kb16 45 = .ok (.if_icmp .lt 6, 3) from by decide +kernel) (i_lt x y) rfl
theorem m16_48 : M16 48 ls st H Q = M16 49 ls (.int 0 :: st) H Q := w_con (show decode kb16 48 = .ok (.iconst 0, 1) from by decide +kernel) rfl (by decide)
theorem m16_49i : M16 49 [l0, l1, l2, l3, .val (.int z), l5, l6] ((.int v) :: st) H Q = M16 51 [l0, l1, l2, l3, .val (.int v), l5, l6] st H Q := w_st (i := 4) (p := isI) (show decode kb16 49 = .ok (.istore 4, 2) from by decide +kernel) rfl rfl rfl rfl rfl rfl
theorem m16_51 : M16 51 [.val (.ref r), l1, l2, l3, l4, l5, l6] st H Q = M16 52 [.val (.ref r), l1, l2, l3, l4, l5, l6] (.ref r :: st) H Q := w_x (show decode kb16 51 = .ok (.aload_n 0, 1) from by decide +kernel) rfl
theorem m16_52 : M16 52 [l0, l1, l2, l3, .val (.int v), l5, l6] st H Q = M16 54 [l0, l1, l2, l3, .val (.int v), l5, l6] (.int v :: st) H Q := w_x (show decode kb16 52 = .ok (.iload 4, 2) from by decide +kernel) rfl
theorem m16_54 : M16 54 ls (.int v :: .ref b :: st) (put b pre s A post) Q = M16 57 ls st (put b pre (ou s 6 v) A post) Q := w_put (show decode kb16 54 = .ok (.putfield 67, 3) from by decide +kernel) pf16_67 put_o (Nat.zero_le _) (by show 18 < 29; omega) rfl put_s6
theorem m16_57 : M16 57 [.val (.ref r), l1, l2, l3, l4, l5, l6] st H Q = M16 58 [.val (.ref r), l1, l2, l3, l4, l5, l6] (.ref r :: st) H Q := w_x (show decode kb16 57 = .ok (.aload_n 0, 1) from by decide +kernel) rfl
theorem m16_58 : M16 58 ls (.ref b :: st) (put b pre s A post) Q = M16 61 ls (.ref (b + 6) :: st) (put b pre s A post) Q := w_get (show decode kb16 58 = .ok (.getfield 25, 3) from by decide +kernel) gf_25 put_o rfl
theorem m16_61 : M16 61 [l0, l1, l2, l3, .val (.int v), l5, l6] st H Q = M16 63 [l0, l1, l2, l3, .val (.int v), l5, l6] (.int v :: st) H Q := w_x (show decode kb16 61 = .ok (.iload 4, 2) from by decide +kernel) rfl
theorem m16_63  : M16 63 ls (.int j :: .ref (b + 6) :: st) (put b pre s A post) Q = (inB j (A 5) ∧ M16 64 ls (.int (getA (A 5) j) :: st) (put b pre s A post) Q) := w_ild (show decode kb16 63 = .ok (.iaload, 1) from by decide +kernel) rfl put_a5
theorem m16_64u : M16 64 [l0, l1, l2, l3, l4, .unset, l6] ((.int v) :: st) H Q = M16 66 [l0, l1, l2, l3, l4, .val (.int v), l6] st H Q := w_st (i := 5) (p := isI) (show decode kb16 64 = .ok (.istore 5, 2) from by decide +kernel) rfl rfl rfl rfl rfl rfl
theorem m16_66 : M16 66 [l0, l1, l2, l3, l4, .val (.int v), l6] st H Q = M16 68 [l0, l1, l2, l3, l4, .val (.int v), l6] (.int v :: st) H Q := w_x (show decode kb16 66 = .ok (.iload 5, 2) from by decide +kernel) rfl
theorem m16_68 : M16 68 ls (.int x :: st) H Q = if x = 0 then M16 71 ls st H Q else M16 72 ls st H Q := w_ifN (show decode kb16 68 = .ok (.ifCond .ne 4, 3) from by decide +kernel) (z_ne x) rfl
theorem m16_71 : M16 71 ls [] H Q = Q none H := w_vret (show decode kb16 71 = .ok (.return_, 1) from by decide +kernel) rfl
theorem m16_72 : M16 72 ls st H Q = M16 73 ls (.int 0 :: st) H Q := w_con (show decode kb16 72 = .ok (.iconst 0, 1) from by decide +kernel) rfl (by decide)
theorem m16_73u : M16 73 [l0, l1, l2, l3, l4, l5, .unset] ((.int v) :: st) H Q = M16 75 [l0, l1, l2, l3, l4, l5, .val (.int v)] st H Q := w_st (i := 6) (p := isI) (show decode kb16 73 = .ok (.istore 6, 2) from by decide +kernel) rfl rfl rfl rfl rfl rfl
theorem m16_75 : M16 75 [l0, l1, l2, l3, l4, l5, .val (.int v)] st H Q = M16 77 [l0, l1, l2, l3, l4, l5, .val (.int v)] (.int v :: st) H Q := w_x (show decode kb16 75 = .ok (.iload 6, 2) from by decide +kernel) rfl
theorem m16_77 : M16 77 [.val (.ref r), l1, l2, l3, l4, l5, l6] st H Q = M16 78 [.val (.ref r), l1, l2, l3, l4, l5, l6] (.ref r :: st) H Q := w_x (show decode kb16 77 = .ok (.aload_n 0, 1) from by decide +kernel) rfl
theorem m16_78 : M16 78 ls (.ref b :: st) (put b pre s A post) Q = M16 81 ls (.int (s 2) :: st) (put b pre s A post) Q := w_get (show decode kb16 78 = .ok (.getfield 55, 3) from by decide +kernel) gf_55 put_o rfl
theorem m16_81 : M16 81 ls (.int y :: .int x :: st) H Q = if x < y then M16 84 ls st H Q else M16 114 ls st H Q := w_icmpN (show decode kb16 81 = .ok (.if_icmp .ge 33, 3) from by decide +kernel) (i_ge x y) rfl
theorem m16_84 : M16 84 [l0, l1, l2, l3, l4, l5, .val (.int v)] st H Q = M16 86 [l0, l1, l2, l3, l4, l5, .val (.int v)] (.int v :: st) H Q := w_x (show decode kb16 84 = .ok (.iload 6, 2) from by decide +kernel) rfl
theorem m16_86 : M16 86 ls st H Q = M16 88 ls (.int 16 :: st) H Q := w_con (show decode kb16 86 = .ok (.bipush 16, 2) from by decide +kernel) rfl (by decide)
theorem m16_88 : M16 88 ls (.int y :: .int x :: st) H Q = if x < y then M16 91 ls st H Q else M16 114 ls st H Q := w_icmpN (show decode kb16 88 = .ok (.if_icmp .ge 26, 3) from by decide +kernel) (i_ge x y) rfl
theorem m16_91 : M16 91 [l0, l1, l2, l3, l4, .val (.int v), l6] st H Q = M16 93 [l0, l1, l2, l3, l4, .val (.int v), l6] (.int v :: st) H Q := w_x (show decode kb16 91 = .ok (.iload 5, 2) from by decide +kernel) rfl
theorem m16_93 : M16 93 [l0, l1, l2, l3, l4, l5, .val (.int v)] st H Q = M16 95 [l0, l1, l2, l3, l4, l5, .val (.int v)] (.int v :: st) H Q := w_x (show decode kb16 93 = .ok (.iload 6, 2) from by decide +kernel) rfl
theorem m16_95 : M16 95 ls (.int y :: .int x :: st) H Q = M16 96 ls (.int (x >>> (y &&& 31)) :: st) H Q := w_x (show decode kb16 95 = .ok (.ishr, 1) from by decide +kernel) rfl
theorem m16_96 : M16 96 ls st H Q = M16 97 ls (.int 1 :: st) H Q := w_con (show decode kb16 96 = .ok (.iconst 1, 1) from by decide +kernel) rfl (by decide)
theorem m16_97 : M16 97 ls (.int y :: .int x :: st) H Q = M16 98 ls (.int (x &&& y) :: st) H Q := w_x (show decode kb16 97 = .ok (.iand, 1) from by decide +kernel) rfl
theorem m16_98 : M16 98 ls (.int x :: st) H Q = if x = 0 then M16 108 ls st H Q else M16 101 ls st H Q := w_if (show decode kb16 98 = .ok (.ifCond .eq 10, 3) from by decide +kernel) (z_eq x) rfl
theorem m16_101 : M16 101 [.val (.ref r), l1, l2, l3, l4, l5, l6] st H Q = M16 102 [.val (.ref r), l1, l2, l3, l4, l5, l6] (.ref r :: st) H Q := w_x (show decode kb16 101 = .ok (.aload_n 0, 1) from by decide +kernel) rfl
theorem m16_102 : M16 102 [l0, l1, l2, l3, l4, l5, .val (.int v)] st H Q = M16 104 [l0, l1, l2, l3, l4, l5, .val (.int v)] (.int v :: st) H Q := w_x (show decode kb16 102 = .ok (.iload 6, 2) from by decide +kernel) rfl
theorem m16_104 : M16 104 [l0, .val (.int v), l2, l3, l4, l5, l6] st H Q = M16 105 [l0, .val (.int v), l2, l3, l4, l5, l6] (.int v :: st) H Q := w_x (show decode kb16 104 = .ok (.iload_n 1, 1) from by decide +kernel) rfl
theorem cr16_131 : vR tables_1 dn y16 131 = some (true, y17, prog_1_method_15_code, 3, none, 2, 0) := pR_of (cR_of (by decide +kernel) rc_17 dn_17 dn_16 (sig := ⟨[.int, .int], none⟩) (by decide +kernel) (by decide +kernel) rfl rfl) (by decide +kernel) (by decide +kernel)
theorem m16_105 (a0 : Int32) (a1 : Int32) : M16 105 ls [.int a1, .int a0, .ref b] (put b pre s A post) Q = M17 0 [.val (.ref b), .val (.int a0), .val (.int a1)] [] (put b pre s A post) (fun v H1 => M16 108 ls (v.toList ++ []) H1 Q) := w_virt (as := [.int a1, .int a0]) (rest := []) (a := b) (show decode kb16 105 = .ok (.invokevirtual 131, 3) from by decide +kernel) cr16_131 put_o rfl rfl (Nat.le_of_ble_eq_true rfl) (by show 3 ≤ 3; omega) rfl
theorem m16_108 : M16 108 [l0, l1, l2, l3, l4, l5, .val (.int v)] st H Q = M16 111 [l0, l1, l2, l3, l4, l5, .val (.int (v + 1))] st H Q := w_iinc (show decode kb16 108 = .ok (.iinc 6 1, 3) from by decide +kernel) rfl (by decide) rfl
theorem m16_111 : M16 111 ls st H Q = M16 75 ls st H Q := w_x (show decode kb16 111 = .ok (.goto (-36), 3) from by decide +kernel) rfl
theorem m16_114 : M16 114 ls [] H Q = Q none H := w_vret (show decode kb16 114 = .ok (.return_, 1) from by decide +kernel) rfl
theorem m17_0 : M17 0 [.val (.ref r), l1, l2] st H Q = M17 1 [.val (.ref r), l1, l2] (.ref r :: st) H Q := w_x (show decode kb17 0 = .ok (.aload_n 0, 1) from by decide +kernel) rfl
theorem m17_1 : M17 1 ls (.ref b :: st) (put b pre s A post) Q = M17 4 ls (.int (s 16) :: st) (put b pre s A post) Q := w_get (show decode kb17 1 = .ok (.getfield 97, 3) from by decide +kernel) gf_97 put_o rfl
theorem m17_4 : M17 4 ls (.int x :: st) H Q = if x < 0 then M17 36 ls st H Q else M17 7 ls st H Q := w_if (show decode kb17 4 = .ok (.ifCond .lt 32, 3) from by decide +kernel) (z_lt x) rfl
theorem m17_7 : M17 7 [.val (.ref r), l1, l2] st H Q = M17 8 [.val (.ref r), l1, l2] (.ref r :: st) H Q := w_x (show decode kb17 7 = .ok (.aload_n 0, 1) from by decide +kernel) rfl
theorem m17_8 : M17 8 ls (.ref b :: st) (put b pre s A post) Q = M17 11 ls (.int (s 16) :: st) (put b pre s A post) Q := w_get (show decode kb17 8 = .ok (.getfield 97, 3) from by decide +kernel) gf_97 put_o rfl
theorem m17_11 : M17 11 ls st H Q = M17 13 ls (.int 64 :: st) H Q := w_con (show decode kb17 11 = .ok (.bipush 64, 2) from by decide +kernel) rfl (by decide)
theorem m17_13 : M17 13 ls (.int y :: .int x :: st) H Q = if x < y then M17 16 ls st H Q else M17 36 ls st H Q := w_icmpN (show decode kb17 13 = .ok (.if_icmp .ge 23, 3) from by decide +kernel) (i_ge x y) rfl
theorem m17_16 : M17 16 [.val (.ref r), l1, l2] st H Q = M17 17 [.val (.ref r), l1, l2] (.ref r :: st) H Q := w_x (show decode kb17 16 = .ok (.aload_n 0, 1) from by decide +kernel) rfl
theorem m17_17 : M17 17 ls (.ref b :: st) (put b pre s A post) Q = M17 20 ls (.ref (b + 11) :: st) (put b pre s A post) Q := w_get (show decode kb17 17 = .ok (.getfield 41, 3) from by decide +kernel) gf_41 put_o rfl
theorem m17_20 : M17 20 [.val (.ref r), l1, l2] st H Q = M17 21 [.val (.ref r), l1, l2] (.ref r :: st) H Q := w_x (show decode kb17 20 = .ok (.aload_n 0, 1) from by decide +kernel) rfl
theorem m17_21 : M17 21 ls (.ref b :: st) (put b pre s A post) Q = M17 24 ls (.int (s 16) :: st) (put b pre s A post) Q := w_get (show decode kb17 21 = .ok (.getfield 97, 3) from by decide +kernel) gf_97 put_o rfl
theorem m17_24 : M17 24 [l0, .val (.int v), l2] st H Q = M17 25 [l0, .val (.int v), l2] (.int v :: st) H Q := w_x (show decode kb17 24 = .ok (.iload_n 1, 1) from by decide +kernel) rfl
theorem m17_25  : M17 25 ls (.int v :: .int j :: .ref (b + 11) :: st) (put b pre s A post) Q = (inB j (A 10) ∧ M17 26 ls st (put b pre s (ou A 10 (setA (A 10) j v)) post) Q) := w_ist (show decode kb17 25 = .ok (.iastore, 1) from by decide +kernel) rfl put_a10 (Nat.zero_le _) rfl put_w10
theorem m17_26 : M17 26 [.val (.ref r), l1, l2] st H Q = M17 27 [.val (.ref r), l1, l2] (.ref r :: st) H Q := w_x (show decode kb17 26 = .ok (.aload_n 0, 1) from by decide +kernel) rfl
theorem m17_27 : M17 27 ls (.ref b :: st) (put b pre s A post) Q = M17 30 ls (.ref (b + 12) :: st) (put b pre s A post) Q := w_get (show decode kb17 27 = .ok (.getfield 44, 3) from by decide +kernel) gf_44 put_o rfl
theorem m17_30 : M17 30 [.val (.ref r), l1, l2] st H Q = M17 31 [.val (.ref r), l1, l2] (.ref r :: st) H Q := w_x (show decode kb17 30 = .ok (.aload_n 0, 1) from by decide +kernel) rfl
theorem m17_31 : M17 31 ls (.ref b :: st) (put b pre s A post) Q = M17 34 ls (.int (s 16) :: st) (put b pre s A post) Q := w_get (show decode kb17 31 = .ok (.getfield 97, 3) from by decide +kernel) gf_97 put_o rfl
theorem m17_34 : M17 34 [l0, l1, .val (.int v)] st H Q = M17 35 [l0, l1, .val (.int v)] (.int v :: st) H Q := w_x (show decode kb17 34 = .ok (.iload_n 2, 1) from by decide +kernel) rfl
theorem m17_35  : M17 35 ls (.int v :: .int j :: .ref (b + 12) :: st) (put b pre s A post) Q = (inB j (A 11) ∧ M17 36 ls st (put b pre s (ou A 11 (setA (A 11) j v)) post) Q) := w_ist (show decode kb17 35 = .ok (.iastore, 1) from by decide +kernel) rfl put_a11 (Nat.zero_le _) rfl put_w11
theorem m17_36 : M17 36 [.val (.ref r), l1, l2] st H Q = M17 37 [.val (.ref r), l1, l2] (.ref r :: st) H Q := w_x (show decode kb17 36 = .ok (.aload_n 0, 1) from by decide +kernel) rfl
theorem m17_37 : M17 37 ls ((.ref r) :: st) H Q = M17 38 ls ((.ref r) :: (.ref r) :: st) H Q := w_x (show decode kb17 37 = .ok (.dup, 1) from by decide +kernel) rfl
theorem m17_38 : M17 38 ls (.ref b :: st) (put b pre s A post) Q = M17 41 ls (.int (s 16) :: st) (put b pre s A post) Q := w_get (show decode kb17 38 = .ok (.getfield 97, 3) from by decide +kernel) gf_97 put_o rfl
theorem m17_41 : M17 41 ls st H Q = M17 42 ls (.int 1 :: st) H Q := w_con (show decode kb17 41 = .ok (.iconst 1, 1) from by decide +kernel) rfl (by decide)
theorem m17_42 : M17 42 ls (.int y :: .int x :: st) H Q = M17 43 ls (.int (x + y) :: st) H Q := w_x (show decode kb17 42 = .ok (.iadd, 1) from by decide +kernel) rfl
theorem pf17_97 : pfR tables_1 y17.cls y17.name 97 = some ("StreamSigScanner", 28, .int) := by decide +kernel
theorem m17_43 : M17 43 ls (.int v :: .ref b :: st) (put b pre s A post) Q = M17 46 ls st (put b pre (ou s 16 v) A post) Q := w_put (show decode kb17 43 = .ok (.putfield 97, 3) from by decide +kernel) pf17_97 put_o (Nat.zero_le _) (by show 28 < 29; omega) rfl put_s16
theorem m17_46 : M17 46 ls [] H Q = Q none H := w_vret (show decode kb17 46 = .ok (.return_, 1) from by decide +kernel) rfl
theorem m18_0 : M18 0 [.val (.ref r), l1] st H Q = M18 1 [.val (.ref r), l1] (.ref r :: st) H Q := w_x (show decode kb18 0 = .ok (.aload_n 0, 1) from by decide +kernel) rfl
theorem m18_1 : M18 1 [l0, .val (.int v)] st H Q = M18 2 [l0, .val (.int v)] (.int v :: st) H Q := w_x (show decode kb18 1 = .ok (.iload_n 1, 1) from by decide +kernel) rfl
theorem cr18_141 : vR tables_1 dn y18 141 = some (true, y19, prog_1_method_25_code, 3, (some .boolean), 1, 0) := pR_of (cR_of (by decide +kernel) rc_19 dn_19 dn_18 (sig := ⟨[.int], some .boolean⟩) (by decide +kernel) (by decide +kernel) rfl rfl) (by decide +kernel) (by decide +kernel)
theorem m18_2 (a0 : Int32) : M18 2 ls [.int a0, .ref b] (put b pre s A post) Q = M19 0 [.val (.ref b), .val (.int a0), .unset] [] (put b pre s A post) (fun v H1 => M18 5 ls (v.toList ++ []) H1 Q) := w_virt (as := [.int a0]) (rest := []) (a := b) (show decode kb18 2 = .ok (.invokevirtual 141, 3) from by decide +kernel) cr18_141 put_o rfl rfl (Nat.le_of_ble_eq_true rfl) (by show 2 ≤ 3; omega) rfl
theorem m18_5 : M18 5 ls (.int x :: st) H Q = if x = 0 then M18 8 ls st H Q else M18 10 ls st H Q := w_ifN (show decode kb18 5 = .ok (.ifCond .ne 5, 3) from by decide +kernel) (z_ne x) rfl
theorem m18_8 : M18 8 ls st H Q = M18 9 ls (.int (-1) :: st) H Q := w_con (show decode kb18 8 = .ok (.iconst (-1), 1) from by decide +kernel) rfl (by decide)
theorem m18_9 : M18 9 ls (.int z :: st) H Q = Q (some (.int z)) H := w_iret (show decode kb18 9 = .ok (.ireturn, 1) from by decide +kernel) rfl
theorem m18_10 : M18 10 [.val (.ref r), l1] st H Q = M18 11 [.val (.ref r), l1] (.ref r :: st) H Q := w_x (show decode kb18 10 = .ok (.aload_n 0, 1) from by decide +kernel) rfl
theorem m18_11 : M18 11 ls (.ref b :: st) (put b pre s A post) Q = M18 14 ls (.ref (b + 11) :: st) (put b pre s A post) Q := w_get (show decode kb18 11 = .ok (.getfield 41, 3) from by decide +kernel) gf_41 put_o rfl
theorem m18_14 : M18 14 [l0, .val (.int v)] st H Q = M18 15 [l0, .val (.int v)] (.int v :: st) H Q := w_x (show decode kb18 14 = .ok (.iload_n 1, 1) from by decide +kernel) rfl
theorem m18_15  : M18 15 ls (.int j :: .ref (b + 11) :: st) (put b pre s A post) Q = (inB j (A 10) ∧ M18 16 ls (.int (getA (A 10) j) :: st) (put b pre s A post) Q) := w_ild (show decode kb18 15 = .ok (.iaload, 1) from by decide +kernel) rfl put_a10
theorem m18_16 : M18 16 ls (.int z :: st) H Q = Q (some (.int z)) H := w_iret (show decode kb18 16 = .ok (.ireturn, 1) from by decide +kernel) rfl
theorem m19_0 : M19 0 [.val (.ref r), l1, l2] st H Q = M19 1 [.val (.ref r), l1, l2] (.ref r :: st) H Q := w_x (show decode kb19 0 = .ok (.aload_n 0, 1) from by decide +kernel) rfl
theorem m19_1 : M19 1 ls (.ref b :: st) (put b pre s A post) Q = M19 4 ls (.int (s 16) :: st) (put b pre s A post) Q := w_get (show decode kb19 1 = .ok (.getfield 97, 3) from by decide +kernel) gf_97 put_o rfl
theorem m19_4u : M19 4 [l0, l1, .unset] ((.int v) :: st) H Q = M19 5 [l0, l1, .val (.int v)] st H Q := w_st (i := 2) (p := isI) (show decode kb19 4 = .ok (.istore_n 2, 1) from by decide +kernel) rfl rfl rfl rfl rfl rfl
theorem m19_5 : M19 5 [l0, l1, .val (.int v)] st H Q = M19 6 [l0, l1, .val (.int v)] (.int v :: st) H Q := w_x (show decode kb19 5 = .ok (.iload_n 2, 1) from by decide +kernel) rfl
theorem m19_6 : M19 6 ls st H Q = M19 8 ls (.int 64 :: st) H Q := w_con (show decode kb19 6 = .ok (.bipush 64, 2) from by decide +kernel) rfl (by decide)
theorem m19_8 : M19 8 ls (.int y :: .int x :: st) H Q = if y < x then M19 11 ls st H Q else M19 14 ls st H Q := w_icmpN (show decode kb19 8 = .ok (.if_icmp .le 6, 3) from by decide +kernel) (i_le x y) rfl
theorem m19_11 : M19 11 ls st H Q = M19 13 ls (.int 64 :: st) H Q := w_con (show decode kb19 11 = .ok (.bipush 64, 2) from by decide +kernel) rfl (by decide)
theorem m19_13i : M19 13 [l0, l1, .val (.int z)] ((.int v) :: st) H Q = M19 14 [l0, l1, .val (.int v)] st H Q := w_st (i := 2) (p := isI) (show decode kb19 13 = .ok (.istore_n 2, 1) from by decide +kernel) rfl rfl rfl rfl rfl rfl
theorem m19_14 : M19 14 [l0, .val (.int v), l2] st H Q = M19 15 [l0, .val (.int v), l2] (.int v :: st) H Q := w_x (show decode kb19 14 = .ok (.iload_n 1, 1) from by decide +kernel) rfl
theorem m19_15 : M19 15 ls (.int x :: st) H Q = if x < 0 then M19 27 ls st H Q else M19 18 ls st H Q := w_if (show decode kb19 15 = .ok (.ifCond .lt 12, 3) from by decide +kernel) (z_lt x) rfl
theorem m19_18 : M19 18 [l0, .val (.int v), l2] st H Q = M19 19 [l0, .val (.int v), l2] (.int v :: st) H Q := w_x (show decode kb19 18 = .ok (.iload_n 1, 1) from by decide +kernel) rfl
theorem m19_19 : M19 19 [l0, l1, .val (.int v)] st H Q = M19 20 [l0, l1, .val (.int v)] (.int v :: st) H Q := w_x (show decode kb19 19 = .ok (.iload_n 2, 1) from by decide +kernel) rfl
theorem m19_20 : M19 20 ls (.int y :: .int x :: st) H Q = if x < y then M19 23 ls st H Q else M19 27 ls st H Q := w_icmpN (show decode kb19 20 = .ok (.if_icmp .ge 7, 3) from by decide +kernel) (i_ge x y) rfl
theorem m19_23 : M19 23 ls st H Q = M19 24 ls (.int 1 :: st) H Q := w_con (show decode kb19 23 = .ok (.iconst 1, 1) from by decide +kernel) rfl (by decide)
theorem m19_24 : M19 24 ls st H Q = M19 28 ls st H Q := w_x (show decode kb19 24 = .ok (.goto 4, 3) from by decide +kernel) rfl
theorem m19_27 : M19 27 ls st H Q = M19 28 ls (.int 0 :: st) H Q := w_con (show decode kb19 27 = .ok (.iconst 0, 1) from by decide +kernel) rfl (by decide)
theorem m19_28 : M19 28 ls (.int z :: st) H Q = Q (some (.int (nar .boolean z))) H := w_iretN (show decode kb19 28 = .ok (.ireturn, 1) from by decide +kernel) rfl (by simp)
theorem m20_0 : M20 0 [.val (.ref r), l1] st H Q = M20 1 [.val (.ref r), l1] (.ref r :: st) H Q := w_x (show decode kb20 0 = .ok (.aload_n 0, 1) from by decide +kernel) rfl
theorem m20_1 : M20 1 [l0, .val (.int v)] st H Q = M20 2 [l0, .val (.int v)] (.int v :: st) H Q := w_x (show decode kb20 1 = .ok (.iload_n 1, 1) from by decide +kernel) rfl
theorem cr20_141 : vR tables_1 dn y20 141 = some (true, y19, prog_1_method_25_code, 3, (some .boolean), 1, 0) := pR_of (cR_of (by decide +kernel) rc_19 dn_19 dn_20 (sig := ⟨[.int], some .boolean⟩) (by decide +kernel) (by decide +kernel) rfl rfl) (by decide +kernel) (by decide +kernel)
theorem m20_2 (a0 : Int32) : M20 2 ls [.int a0, .ref b] (put b pre s A post) Q = M19 0 [.val (.ref b), .val (.int a0), .unset] [] (put b pre s A post) (fun v H1 => M20 5 ls (v.toList ++ []) H1 Q) := w_virt (as := [.int a0]) (rest := []) (a := b) (show decode kb20 2 = .ok (.invokevirtual 141, 3) from by decide +kernel) cr20_141 put_o rfl rfl (Nat.le_of_ble_eq_true rfl) (by show 2 ≤ 3; omega) rfl
theorem m20_5 : M20 5 ls (.int x :: st) H Q = if x = 0 then M20 8 ls st H Q else M20 10 ls st H Q := w_ifN (show decode kb20 5 = .ok (.ifCond .ne 5, 3) from by decide +kernel) (z_ne x) rfl
theorem m20_8 : M20 8 ls st H Q = M20 9 ls (.int (-1) :: st) H Q := w_con (show decode kb20 8 = .ok (.iconst (-1), 1) from by decide +kernel) rfl (by decide)
theorem m20_9 : M20 9 ls (.int z :: st) H Q = Q (some (.int z)) H := w_iret (show decode kb20 9 = .ok (.ireturn, 1) from by decide +kernel) rfl
theorem m20_10 : M20 10 [.val (.ref r), l1] st H Q = M20 11 [.val (.ref r), l1] (.ref r :: st) H Q := w_x (show decode kb20 10 = .ok (.aload_n 0, 1) from by decide +kernel) rfl
theorem m20_11 : M20 11 ls (.ref b :: st) (put b pre s A post) Q = M20 14 ls (.ref (b + 12) :: st) (put b pre s A post) Q := w_get (show decode kb20 11 = .ok (.getfield 44, 3) from by decide +kernel) gf_44 put_o rfl
theorem m20_14 : M20 14 [l0, .val (.int v)] st H Q = M20 15 [l0, .val (.int v)] (.int v :: st) H Q := w_x (show decode kb20 14 = .ok (.iload_n 1, 1) from by decide +kernel) rfl
theorem m20_15  : M20 15 ls (.int j :: .ref (b + 12) :: st) (put b pre s A post) Q = (inB j (A 11) ∧ M20 16 ls (.int (getA (A 11) j) :: st) (put b pre s A post) Q) := w_ild (show decode kb20 15 = .ok (.iaload, 1) from by decide +kernel) rfl put_a11
theorem m20_16 : M20 16 ls (.int z :: st) H Q = Q (some (.int z)) H := w_iret (show decode kb20 16 = .ok (.ireturn, 1) from by decide +kernel) rfl
theorem m21_0 : M21 0 [.val (.int v), l1, l2, l3, l4] st H Q = M21 1 [.val (.int v), l1, l2, l3, l4] (.int v :: st) H Q := w_x (show decode kb21 0 = .ok (.iload_n 0, 1) from by decide +kernel) rfl
theorem m21_1 : M21 1 ls (.int x :: st) H Q = if x = 0 then M21 4 ls st H Q else M21 6 ls st H Q := w_ifN (show decode kb21 1 = .ok (.ifCond .ne 5, 3) from by decide +kernel) (z_ne x) rfl
theorem m21_4 : M21 4 [l0, .val (.int v), l2, l3, l4] st H Q = M21 5 [l0, .val (.int v), l2, l3, l4] (.int v :: st) H Q := w_x (show decode kb21 4 = .ok (.iload_n 1, 1) from by decide +kernel) rfl
theorem m21_5 : M21 5 ls (.int z :: st) H Q = Q (some (.int z)) H := w_iret (show decode kb21 5 = .ok (.ireturn, 1) from by decide +kernel) rfl
theorem m21_6 : M21 6 [.val (.int v), l1, l2, l3, l4] st H Q = M21 7 [.val (.int v), l1, l2, l3, l4] (.int v :: st) H Q := w_x (show decode kb21 6 = .ok (.iload_n 0, 1) from by decide +kernel) rfl
theorem m21_7 : M21 7 ls st H Q = M21 8 ls (.int 1 :: st) H Q := w_con (show decode kb21 7 = .ok (.iconst 1, 1) from by decide +kernel) rfl (by decide)
theorem m21_8 : M21 8 ls (.int y :: .int x :: st) H Q = if x = y then M21 11 ls st H Q else M21 13 ls st H Q := w_icmpN (show decode kb21 8 = .ok (.if_icmp .ne 5, 3) from by decide +kernel) (i_ne x y) rfl
theorem m21_11 : M21 11 [l0, l1, .val (.int v), l3, l4] st H Q = M21 12 [l0, l1, .val (.int v), l3, l4] (.int v :: st) H Q := w_x (show decode kb21 11 = .ok (.iload_n 2, 1) from by decide +kernel) rfl
theorem m21_12 : M21 12 ls (.int z :: st) H Q = Q (some (.int z)) H := w_iret (show decode kb21 12 = .ok (.ireturn, 1) from by decide +kernel) rfl
theorem m21_13 : M21 13 [.val (.int v), l1, l2, l3, l4] st H Q = M21 14 [.val (.int v), l1, l2, l3, l4] (.int v :: st) H Q := w_x (show decode kb21 13 = .ok (.iload_n 0, 1) from by decide +kernel) rfl
theorem m21_14 : M21 14 ls st H Q = M21 15 ls (.int 2 :: st) H Q := w_con (show decode kb21 14 = .ok (.iconst 2, 1) from by decide +kernel) rfl (by decide)
theorem m21_15 : M21 15 ls (.int y :: .int x :: st) H Q = if x = y then M21 18 ls st H Q else M21 20 ls st H Q := w_icmpN (show decode kb21 15 = .ok (.if_icmp .ne 5, 3) from by decide +kernel) (i_ne x y) rfl
theorem m21_18 : M21 18 [l0, l1, l2, .val (.int v), l4] st H Q = M21 19 [l0, l1, l2, .val (.int v), l4] (.int v :: st) H Q := w_x (show decode kb21 18 = .ok (.iload_n 3, 1) from by decide +kernel) rfl
theorem m21_19 : M21 19 ls (.int z :: st) H Q = Q (some (.int z)) H := w_iret (show decode kb21 19 = .ok (.ireturn, 1) from by decide +kernel) rfl
theorem m21_20 : M21 20 [l0, l1, l2, l3, .val (.int v)] st H Q = M21 22 [l0, l1, l2, l3, .val (.int v)] (.int v :: st) H Q := w_x (show decode kb21 20 = .ok (.iload 4, 2) from by decide +kernel) rfl
theorem m21_22 : M21 22 ls (.int z :: st) H Q = Q (some (.int z)) H := w_iret (show decode kb21 22 = .ok (.ireturn, 1) from by decide +kernel) rfl
theorem m22_0 : M22 0 [.val (.int v), l1, l2, l3, l4, l5, l6, l7, l8, l9, l10, l11, l12, l13, l14, l15, l16] st H Q = M22 1 [.val (.int v), l1, l2, l3, l4, l5, l6, l7, l8, l9, l10, l11, l12, l13, l14, l15, l16] (.int v :: st) H Q := w_x at_0 rfl
theorem m22_1 : M22 1 ls st H Q = M22 4 ls (.int 255 :: st) H Q := w_con at_1 rfl (by decide)
theorem m22_4 : M22 4 ls (.int y :: .int x :: st) H Q = M22 5 ls (.int (x &&& y) :: st) H Q := w_x at_4 rfl
theorem m22_5u : M22 5 [l0, l1, l2, l3, l4, l5, .unset, l7, l8, l9, l10, l11, l12, l13, l14, l15, l16] ((.int v) :: st) H Q = M22 7 [l0, l1, l2, l3, l4, l5, .val (.int v), l7, l8, l9, l10, l11, l12, l13, l14, l15, l16] st H Q := w_st (i := 6) (p := isI) at_5 rfl rfl rfl rfl rfl rfl
theorem m22_7 : M22 7 [l0, .val (.int v), l2, l3, l4, l5, l6, l7, l8, l9, l10, l11, l12, l13, l14, l15, l16] st H Q = M22 8 [l0, .val (.int v), l2, l3, l4, l5, l6, l7, l8, l9, l10, l11, l12, l13, l14, l15, l16] (.int v :: st) H Q := w_x at_7 rfl
theorem m22_8 : M22 8 ls st H Q = M22 11 ls (.int 255 :: st) H Q := w_con at_8 rfl (by decide)
theorem m22_11 : M22 11 ls (.int y :: .int x :: st) H Q = M22 12 ls (.int (x &&& y) :: st) H Q := w_x at_11 rfl
theorem m22_12u : M22 12 [l0, l1, l2, l3, l4, l5, l6, .unset, l8, l9, l10, l11, l12, l13, l14, l15, l16] ((.int v) :: st) H Q = M22 14 [l0, l1, l2, l3, l4, l5, l6, .val (.int v), l8, l9, l10, l11, l12, l13, l14, l15, l16] st H Q := w_st (i := 7) (p := isI) at_12 rfl rfl rfl rfl rfl rfl
theorem m22_14 : M22 14 [l0, l1, .val (.int v), l3, l4, l5, l6, l7, l8, l9, l10, l11, l12, l13, l14, l15, l16] st H Q = M22 15 [l0, l1, .val (.int v), l3, l4, l5, l6, l7, l8, l9, l10, l11, l12, l13, l14, l15, l16] (.int v :: st) H Q := w_x at_14 rfl
theorem m22_15 : M22 15 ls st H Q = M22 18 ls (.int 255 :: st) H Q := w_con at_15 rfl (by decide)
theorem m22_18 : M22 18 ls (.int y :: .int x :: st) H Q = M22 19 ls (.int (x &&& y) :: st) H Q := w_x at_18 rfl
theorem m22_19u : M22 19 [l0, l1, l2, l3, l4, l5, l6, l7, .unset, l9, l10, l11, l12, l13, l14, l15, l16] ((.int v) :: st) H Q = M22 21 [l0, l1, l2, l3, l4, l5, l6, l7, .val (.int v), l9, l10, l11, l12, l13, l14, l15, l16] st H Q := w_st (i := 8) (p := isI) at_19 rfl rfl rfl rfl rfl rfl
theorem m22_21 : M22 21 [l0, l1, l2, .val (.int v), l4, l5, l6, l7, l8, l9, l10, l11, l12, l13, l14, l15, l16] st H Q = M22 22 [l0, l1, l2, .val (.int v), l4, l5, l6, l7, l8, l9, l10, l11, l12, l13, l14, l15, l16] (.int v :: st) H Q := w_x at_21 rfl
theorem m22_22 : M22 22 ls st H Q = M22 25 ls (.int 255 :: st) H Q := w_con at_22 rfl (by decide)
theorem m22_25 : M22 25 ls (.int y :: .int x :: st) H Q = M22 26 ls (.int (x &&& y) :: st) H Q := w_x at_25 rfl
theorem m22_26u : M22 26 [l0, l1, l2, l3, l4, l5, l6, l7, l8, .unset, l10, l11, l12, l13, l14, l15, l16] ((.int v) :: st) H Q = M22 28 [l0, l1, l2, l3, l4, l5, l6, l7, l8, .val (.int v), l10, l11, l12, l13, l14, l15, l16] st H Q := w_st (i := 9) (p := isI) at_26 rfl rfl rfl rfl rfl rfl
theorem m22_28 : M22 28 [l0, l1, l2, l3, .val (.int v), l5, l6, l7, l8, l9, l10, l11, l12, l13, l14, l15, l16] st H Q = M22 30 [l0, l1, l2, l3, .val (.int v), l5, l6, l7, l8, l9, l10, l11, l12, l13, l14, l15, l16] (.int v :: st) H Q := w_x at_28 rfl
theorem m22_30 : M22 30 ls st H Q = M22 33 ls (.int 255 :: st) H Q := w_con at_30 rfl (by decide)
theorem m22_33 : M22 33 ls (.int y :: .int x :: st) H Q = M22 34 ls (.int (x &&& y) :: st) H Q := w_x at_33 rfl
theorem m22_34u : M22 34 [l0, l1, l2, l3, l4, l5, l6, l7, l8, l9, .unset, l11, l12, l13, l14, l15, l16] ((.int v) :: st) H Q = M22 36 [l0, l1, l2, l3, l4, l5, l6, l7, l8, l9, .val (.int v), l11, l12, l13, l14, l15, l16] st H Q := w_st (i := 10) (p := isI) at_34 rfl rfl rfl rfl rfl rfl
theorem m22_36 : M22 36 [l0, l1, l2, l3, l4, .val (.int v), l6, l7, l8, l9, l10, l11, l12, l13, l14, l15, l16] st H Q = M22 38 [l0, l1, l2, l3, l4, .val (.int v), l6, l7, l8, l9, l10, l11, l12, l13, l14, l15, l16] (.int v :: st) H Q := w_x at_36 rfl
theorem m22_38 : M22 38 ls st H Q = M22 41 ls (.int 255 :: st) H Q := w_con at_38 rfl (by decide)
theorem m22_41 : M22 41 ls (.int y :: .int x :: st) H Q = M22 42 ls (.int (x &&& y) :: st) H Q := w_x at_41 rfl
theorem m22_42u : M22 42 [l0, l1, l2, l3, l4, l5, l6, l7, l8, l9, l10, .unset, l12, l13, l14, l15, l16] ((.int v) :: st) H Q = M22 44 [l0, l1, l2, l3, l4, l5, l6, l7, l8, l9, l10, .val (.int v), l12, l13, l14, l15, l16] st H Q := w_st (i := 11) (p := isI) at_42 rfl rfl rfl rfl rfl rfl
theorem m22_44 : M22 44 ls st H Q = M22 47 ls (.ref H.length :: st) (H ++ [(.object "StreamSigScanner", D0)]) Q := (w_new (C := "StreamSigScanner") at_44 (by rw [hNew, show rCls tables_1 y22.cls 7 = some "StreamSigScanner" from by decide +kernel]; dsimp only; rw [if_pos (by decide +kernel)])).trans (by rw [lay0]; rfl)
theorem m22_47 : M22 47 ls ((.ref r) :: st) H Q = M22 48 ls ((.ref r) :: (.ref r) :: st) H Q := w_x at_47 rfl
theorem m22_48 : M22 48 ls st H Q = M22 50 ls (.int 8 :: st) H Q := w_con at_48 rfl (by decide)
theorem cr22_9 : nR tables_1 dn y22 9 = some (y0, prog_1_method_1_code, 3, none, 1, 35) := nR_of (cR_of (by decide +kernel) rc_0 dn_0 dn_22 (sig := ⟨[.int], none⟩) (by decide +kernel) (by decide +kernel) rfl rfl) rfl (by decide +kernel) rfl
theorem cr22_9_o : oR tables_1 dn y22 9 = none := by decide +kernel
theorem m22_50 (a0 : Int32) (u0 : Nat) : M22 50 ls [.int a0, .ref r, .ref u0] H Q = M0 0 [.val (.ref r), .val (.int a0), .unset] [] H (fun v H1 => M22 53 ls (v.toList ++ [.ref u0]) H1 Q) := w_spec (as := [.int a0]) (rest := [.ref u0]) (a := r) at_50 cr22_9_o cr22_9 rfl (Nat.le_of_ble_eq_true rfl) (by show 2 ≤ 3; omega) rfl
theorem m22_53u : M22 53 [l0, l1, l2, l3, l4, l5, l6, l7, l8, l9, l10, l11, .unset, l13, l14, l15, l16] ((.ref r) :: st) H Q = M22 55 [l0, l1, l2, l3, l4, l5, l6, l7, l8, l9, l10, l11, .val (.ref r), l13, l14, l15, l16] st H Q := w_st (i := 12) (p := Value.isRef) at_53 rfl rfl rfl rfl rfl rfl
theorem m22_55 : M22 55 [l0, l1, l2, l3, l4, l5, l6, l7, l8, l9, l10, l11, .val (.ref r), l13, l14, l15, l16] st H Q = M22 57 [l0, l1, l2, l3, l4, l5, l6, l7, l8, l9, l10, l11, .val (.ref r), l13, l14, l15, l16] (.ref r :: st) H Q := w_x at_55 rfl
theorem m22_57 : M22 57 [l0, l1, l2, l3, l4, l5, .val (.int v), l7, l8, l9, l10, l11, l12, l13, l14, l15, l16] st H Q = M22 59 [l0, l1, l2, l3, l4, l5, .val (.int v), l7, l8, l9, l10, l11, l12, l13, l14, l15, l16] (.int v :: st) H Q := w_x at_57 rfl
theorem cr22_12 : vR tables_1 dn y22 12 = some (false, y1, prog_1_method_2_code, 3, (some .int), 1, 34) := vR_of (cR_of (by decide +kernel) rc_1 dn_1 dn_22 (sig := ⟨[.int], some .int⟩) (by decide +kernel) (by decide +kernel) rfl rfl) (by decide +kernel) (by decide +kernel) (by decide +kernel)
theorem m22_59 (a0 : Int32) : M22 59 ls [.int a0, .ref b] (put b pre s A post) Q = M1 0 [.val (.ref b), .val (.int a0), .unset] [] (put b pre s A post) (fun v H1 => M22 62 ls (v.toList ++ []) H1 Q) := w_virt (as := [.int a0]) (rest := []) (a := b) at_59 cr22_12 put_o rfl rfl (Nat.le_of_ble_eq_true rfl) (by show 2 ≤ 3; omega) rfl
theorem m22_62 : M22 62 ls (.int x :: st) H Q = if x = 0 then M22 67 ls st H Q else M22 65 ls st H Q := w_if at_62 (z_eq x) rfl
theorem m22_65 : M22 65 ls st H Q = M22 66 ls (.int 0 :: st) H Q := w_con at_65 rfl (by decide)
theorem m22_66 : M22 66 ls (.int z :: st) H Q = Q (some (.int (nar .boolean z))) H := w_iretN at_66 rfl (by simp)
theorem m22_67 : M22 67 [l0, l1, l2, l3, l4, l5, l6, l7, l8, l9, l10, l11, .val (.ref r), l13, l14, l15, l16] st H Q = M22 69 [l0, l1, l2, l3, l4, l5, l6, l7, l8, l9, l10, l11, .val (.ref r), l13, l14, l15, l16] (.ref r :: st) H Q := w_x at_67 rfl
theorem m22_69 : M22 69 [l0, l1, l2, l3, l4, l5, l6, .val (.int v), l8, l9, l10, l11, l12, l13, l14, l15, l16] st H Q = M22 71 [l0, l1, l2, l3, l4, l5, l6, .val (.int v), l8, l9, l10, l11, l12, l13, l14, l15, l16] (.int v :: st) H Q := w_x at_69 rfl
theorem m22_71 (a0 : Int32) : M22 71 ls [.int a0, .ref b] (put b pre s A post) Q = M1 0 [.val (.ref b), .val (.int a0), .unset] [] (put b pre s A post) (fun v H1 => M22 74 ls (v.toList ++ []) H1 Q) := w_virt (as := [.int a0]) (rest := []) (a := b) at_71 cr22_12 put_o rfl rfl (Nat.le_of_ble_eq_true rfl) (by show 2 ≤ 3; omega) rfl
theorem m22_74 : M22 74 ls (.int x :: st) H Q = if x = 0 then M22 79 ls st H Q else M22 77 ls st H Q := w_if at_74 (z_eq x) rfl
theorem m22_77 : M22 77 ls st H Q = M22 78 ls (.int 0 :: st) H Q := w_con at_77 rfl (by decide)
theorem m22_78 : M22 78 ls (.int z :: st) H Q = Q (some (.int (nar .boolean z))) H := w_iretN at_78 rfl (by simp)
theorem m22_79 : M22 79 [l0, l1, l2, l3, l4, l5, l6, l7, l8, l9, l10, l11, .val (.ref r), l13, l14, l15, l16] st H Q = M22 81 [l0, l1, l2, l3, l4, l5, l6, l7, l8, l9, l10, l11, .val (.ref r), l13, l14, l15, l16] (.ref r :: st) H Q := w_x at_79 rfl
theorem cr22_16 : vR tables_1 dn y22 16 = some (false, y3, prog_1_method_3_code, 2, (some .int), 0, 48) := vR_of (cR_of (by decide +kernel) rc_3 dn_3 dn_22 (sig := ⟨[], some .int⟩) (by decide +kernel) (by decide +kernel) rfl rfl) (by decide +kernel) (by decide +kernel) (by decide +kernel)
theorem m22_81 : M22 81 ls [.ref b] (put b pre s A post) Q = M3 0 [.val (.ref b), .unset] [] (put b pre s A post) (fun v H1 => M22 84 ls (v.toList ++ []) H1 Q) := w_virt (as := []) (rest := []) (a := b) at_81 cr22_16 put_o rfl rfl (Nat.le_of_ble_eq_true rfl) (by show 1 ≤ 2; omega) rfl
theorem m22_84 : M22 84 ls (.int x :: st) H Q = if x = 0 then M22 89 ls st H Q else M22 87 ls st H Q := w_if at_84 (z_eq x) rfl
theorem m22_87 : M22 87 ls st H Q = M22 88 ls (.int 0 :: st) H Q := w_con at_87 rfl (by decide)
theorem m22_88 : M22 88 ls (.int z :: st) H Q = Q (some (.int (nar .boolean z))) H := w_iretN at_88 rfl (by simp)
theorem m22_89 : M22 89 [l0, l1, l2, l3, l4, l5, l6, l7, l8, l9, l10, l11, .val (.ref r), l13, l14, l15, l16] st H Q = M22 91 [l0, l1, l2, l3, l4, l5, l6, l7, l8, l9, l10, l11, .val (.ref r), l13, l14, l15, l16] (.ref r :: st) H Q := w_x at_89 rfl
theorem m22_91 : M22 91 [l0, l1, l2, l3, l4, l5, l6, .val (.int v), l8, l9, l10, l11, l12, l13, l14, l15, l16] st H Q = M22 93 [l0, l1, l2, l3, l4, l5, l6, .val (.int v), l8, l9, l10, l11, l12, l13, l14, l15, l16] (.int v :: st) H Q := w_x at_91 rfl
theorem m22_93 (a0 : Int32) : M22 93 ls [.int a0, .ref b] (put b pre s A post) Q = M1 0 [.val (.ref b), .val (.int a0), .unset] [] (put b pre s A post) (fun v H1 => M22 96 ls (v.toList ++ []) H1 Q) := w_virt (as := [.int a0]) (rest := []) (a := b) at_93 cr22_12 put_o rfl rfl (Nat.le_of_ble_eq_true rfl) (by show 2 ≤ 3; omega) rfl
theorem m22_96 : M22 96 ls (.int x :: st) H Q = if x = 0 then M22 101 ls st H Q else M22 99 ls st H Q := w_if at_96 (z_eq x) rfl
theorem m22_99 : M22 99 ls st H Q = M22 100 ls (.int 0 :: st) H Q := w_con at_99 rfl (by decide)
theorem m22_100 : M22 100 ls (.int z :: st) H Q = Q (some (.int (nar .boolean z))) H := w_iretN at_100 rfl (by simp)
theorem m22_101 : M22 101 [l0, l1, l2, l3, l4, l5, l6, l7, l8, l9, l10, l11, .val (.ref r), l13, l14, l15, l16] st H Q = M22 103 [l0, l1, l2, l3, l4, l5, l6, l7, l8, l9, l10, l11, .val (.ref r), l13, l14, l15, l16] (.ref r :: st) H Q := w_x at_101 rfl
theorem m22_103 : M22 103 ls [.ref b] (put b pre s A post) Q = M3 0 [.val (.ref b), .unset] [] (put b pre s A post) (fun v H1 => M22 106 ls (v.toList ++ []) H1 Q) := w_virt (as := []) (rest := []) (a := b) at_103 cr22_16 put_o rfl rfl (Nat.le_of_ble_eq_true rfl) (by show 1 ≤ 2; omega) rfl
theorem m22_106 : M22 106 ls st H Q = M22 107 ls (.int 1 :: st) H Q := w_con at_106 rfl (by decide)
theorem m22_107 : M22 107 ls (.int y :: .int x :: st) H Q = if x = y then M22 112 ls st H Q else M22 110 ls st H Q := w_icmp at_107 (i_eq x y) rfl
theorem m22_110 : M22 110 ls st H Q = M22 111 ls (.int 0 :: st) H Q := w_con at_110 rfl (by decide)
theorem m22_111 : M22 111 ls (.int z :: st) H Q = Q (some (.int (nar .boolean z))) H := w_iretN at_111 rfl (by simp)
theorem m22_112 : M22 112 [l0, l1, l2, l3, l4, l5, l6, l7, l8, l9, l10, l11, .val (.ref r), l13, l14, l15, l16] st H Q = M22 114 [l0, l1, l2, l3, l4, l5, l6, l7, l8, l9, l10, l11, .val (.ref r), l13, l14, l15, l16] (.ref r :: st) H Q := w_x at_112 rfl
theorem cr22_20 : vR tables_1 dn y22 20 = some (false, y4, prog_1_method_4_code, 1, (some .int), 0, 17) := vR_of (cR_of (by decide +kernel) rc_4 dn_4 dn_22 (sig := ⟨[], some .int⟩) (by decide +kernel) (by decide +kernel) rfl rfl) (by decide +kernel) (by decide +kernel) (by decide +kernel)
theorem m22_114 : M22 114 ls [.ref b] (put b pre s A post) Q = M4 0 [.val (.ref b)] [] (put b pre s A post) (fun v H1 => M22 117 ls (v.toList ++ []) H1 Q) := w_virt (as := []) (rest := []) (a := b) at_114 cr22_20 put_o rfl rfl (Nat.le_of_ble_eq_true rfl) (by show 1 ≤ 1; omega) rfl
theorem m22_117 : M22 117 ls (.int x :: st) H Q = if x = 0 then M22 122 ls st H Q else M22 120 ls st H Q := w_if at_117 (z_eq x) rfl
theorem m22_120 : M22 120 ls st H Q = M22 121 ls (.int 0 :: st) H Q := w_con at_120 rfl (by decide)
theorem m22_121 : M22 121 ls (.int z :: st) H Q = Q (some (.int (nar .boolean z))) H := w_iretN at_121 rfl (by simp)
theorem m22_122 : M22 122 [l0, l1, l2, l3, l4, l5, l6, l7, l8, l9, l10, l11, .val (.ref r), l13, l14, l15, l16] st H Q = M22 124 [l0, l1, l2, l3, l4, l5, l6, l7, l8, l9, l10, l11, .val (.ref r), l13, l14, l15, l16] (.ref r :: st) H Q := w_x at_122 rfl
theorem m22_124 : M22 124 ls st H Q = M22 125 ls (.int 2 :: st) H Q := w_con at_124 rfl (by decide)
theorem cr22_23 : vR tables_1 dn y22 23 = some (false, y9, prog_1_method_9_code, 2, (some .int), 1, 35) := vR_of (cR_of (by decide +kernel) rc_9 dn_9 dn_22 (sig := ⟨[.int], some .int⟩) (by decide +kernel) (by decide +kernel) rfl rfl) (by decide +kernel) (by decide +kernel) (by decide +kernel)
theorem m22_125 (a0 : Int32) : M22 125 ls [.int a0, .ref b] (put b pre s A post) Q = M9 0 [.val (.ref b), .val (.int a0)] [] (put b pre s A post) (fun v H1 => M22 128 ls (v.toList ++ []) H1 Q) := w_virt (as := [.int a0]) (rest := []) (a := b) at_125 cr22_23 put_o rfl rfl (Nat.le_of_ble_eq_true rfl) (by show 2 ≤ 2; omega) rfl
theorem m22_128 : M22 128 ls (.int x :: st) H Q = if x = 0 then M22 133 ls st H Q else M22 131 ls st H Q := w_if at_128 (z_eq x) rfl
theorem m22_131 : M22 131 ls st H Q = M22 132 ls (.int 0 :: st) H Q := w_con at_131 rfl (by decide)
theorem m22_132 : M22 132 ls (.int z :: st) H Q = Q (some (.int (nar .boolean z))) H := w_iretN at_132 rfl (by simp)
theorem m22_133 : M22 133 [l0, l1, l2, l3, l4, l5, l6, l7, l8, l9, l10, l11, .val (.ref r), l13, l14, l15, l16] st H Q = M22 135 [l0, l1, l2, l3, l4, l5, l6, l7, l8, l9, l10, l11, .val (.ref r), l13, l14, l15, l16] (.ref r :: st) H Q := w_x at_133 rfl
theorem m22_135 : M22 135 [l0, l1, l2, l3, l4, l5, l6, l7, l8, l9, .val (.int v), l11, l12, l13, l14, l15, l16] st H Q = M22 137 [l0, l1, l2, l3, l4, l5, l6, l7, l8, l9, .val (.int v), l11, l12, l13, l14, l15, l16] (.int v :: st) H Q := w_x at_135 rfl
theorem cr22_26 : vR tables_1 dn y22 26 = some (false, y11, prog_1_method_10_code, 2, (some .int), 1, 35) := vR_of (cR_of (by decide +kernel) rc_11 dn_11 dn_22 (sig := ⟨[.int], some .int⟩) (by decide +kernel) (by decide +kernel) rfl rfl) (by decide +kernel) (by decide +kernel) (by decide +kernel)
theorem m22_137 (a0 : Int32) : M22 137 ls [.int a0, .ref b] (put b pre s A post) Q = M11 0 [.val (.ref b), .val (.int a0)] [] (put b pre s A post) (fun v H1 => M22 140 ls (v.toList ++ []) H1 Q) := w_virt (as := [.int a0]) (rest := []) (a := b) at_137 cr22_26 put_o rfl rfl (Nat.le_of_ble_eq_true rfl) (by show 2 ≤ 2; omega) rfl
theorem m22_140 : M22 140 ls (.int x :: st) H Q = if x = 0 then M22 145 ls st H Q else M22 143 ls st H Q := w_if at_140 (z_eq x) rfl
theorem m22_143 : M22 143 ls st H Q = M22 144 ls (.int 0 :: st) H Q := w_con at_143 rfl (by decide)
theorem m22_144 : M22 144 ls (.int z :: st) H Q = Q (some (.int (nar .boolean z))) H := w_iretN at_144 rfl (by simp)
theorem m22_145 : M22 145 [l0, l1, l2, l3, l4, l5, l6, l7, l8, l9, l10, l11, .val (.ref r), l13, l14, l15, l16] st H Q = M22 147 [l0, l1, l2, l3, l4, l5, l6, l7, l8, l9, l10, l11, .val (.ref r), l13, l14, l15, l16] (.ref r :: st) H Q := w_x at_145 rfl
theorem m22_147 : M22 147 [l0, l1, l2, l3, l4, l5, l6, l7, l8, l9, l10, .val (.int v), l12, l13, l14, l15, l16] st H Q = M22 149 [l0, l1, l2, l3, l4, l5, l6, l7, l8, l9, l10, .val (.int v), l12, l13, l14, l15, l16] (.int v :: st) H Q := w_x at_147 rfl
theorem m22_149 (a0 : Int32) : M22 149 ls [.int a0, .ref b] (put b pre s A post) Q = M11 0 [.val (.ref b), .val (.int a0)] [] (put b pre s A post) (fun v H1 => M22 152 ls (v.toList ++ []) H1 Q) := w_virt (as := [.int a0]) (rest := []) (a := b) at_149 cr22_26 put_o rfl rfl (Nat.le_of_ble_eq_true rfl) (by show 2 ≤ 2; omega) rfl
theorem m22_152 : M22 152 ls (.int x :: st) H Q = if x = 0 then M22 157 ls st H Q else M22 155 ls st H Q := w_if at_152 (z_eq x) rfl
theorem m22_155 : M22 155 ls st H Q = M22 156 ls (.int 0 :: st) H Q := w_con at_155 rfl (by decide)
theorem m22_156 : M22 156 ls (.int z :: st) H Q = Q (some (.int (nar .boolean z))) H := w_iretN at_156 rfl (by simp)
theorem m22_157 : M22 157 [l0, l1, l2, l3, l4, l5, l6, l7, l8, l9, l10, l11, .val (.ref r), l13, l14, l15, l16] st H Q = M22 159 [l0, l1, l2, l3, l4, l5, l6, l7, l8, l9, l10, l11, .val (.ref r), l13, l14, l15, l16] (.ref r :: st) H Q := w_x at_157 rfl
theorem cr22_29 : vR tables_1 dn y22 29 = some (false, y12, prog_1_method_11_code, 3, (some .int), 0, 0) := vR_of (cR_of (by decide +kernel) rc_12 dn_12 dn_22 (sig := ⟨[], some .int⟩) (by decide +kernel) (by decide +kernel) rfl rfl) (by decide +kernel) (by decide +kernel) (by decide +kernel)
theorem m22_159 : M22 159 ls [.ref b] (put b pre s A post) Q = M12 0 [.val (.ref b), .unset, .unset] [] (put b pre s A post) (fun v H1 => M22 162 ls (v.toList ++ []) H1 Q) := w_virt (as := []) (rest := []) (a := b) at_159 cr22_29 put_o rfl rfl (Nat.le_of_ble_eq_true rfl) (by show 1 ≤ 3; omega) rfl
theorem m22_162 : M22 162 ls (.int x :: st) H Q = if x = 0 then M22 167 ls st H Q else M22 165 ls st H Q := w_if at_162 (z_eq x) rfl
theorem m22_165 : M22 165 ls st H Q = M22 166 ls (.int 0 :: st) H Q := w_con at_165 rfl (by decide)
theorem m22_166 : M22 166 ls (.int z :: st) H Q = Q (some (.int (nar .boolean z))) H := w_iretN at_166 rfl (by simp)
theorem m22_167 : M22 167 [l0, l1, l2, l3, l4, l5, l6, l7, l8, l9, l10, l11, .val (.ref r), l13, l14, l15, l16] st H Q = M22 169 [l0, l1, l2, l3, l4, l5, l6, l7, l8, l9, l10, l11, .val (.ref r), l13, l14, l15, l16] (.ref r :: st) H Q := w_x at_167 rfl
theorem m22_169 : M22 169 ls st H Q = M22 170 ls (.int 1 :: st) H Q := w_con at_169 rfl (by decide)
theorem cr22_32 : vR tables_1 dn y22 32 = some (false, y15, prog_1_method_16_code, 2, (some .int), 1, 48) := vR_of (cR_of (by decide +kernel) rc_15 dn_15 dn_22 (sig := ⟨[.int], some .int⟩) (by decide +kernel) (by decide +kernel) rfl rfl) (by decide +kernel) (by decide +kernel) (by decide +kernel)
theorem m22_170 (a0 : Int32) : M22 170 ls [.int a0, .ref b] (put b pre s A post) Q = M15 0 [.val (.ref b), .val (.int a0)] [] (put b pre s A post) (fun v H1 => M22 173 ls (v.toList ++ []) H1 Q) := w_virt (as := [.int a0]) (rest := []) (a := b) at_170 cr22_32 put_o rfl rfl (Nat.le_of_ble_eq_true rfl) (by show 2 ≤ 2; omega) rfl
theorem m22_173 : M22 173 ls st H Q = M22 174 ls (.int 2 :: st) H Q := w_con at_173 rfl (by decide)
theorem m22_174 : M22 174 ls (.int y :: .int x :: st) H Q = if x = y then M22 179 ls st H Q else M22 177 ls st H Q := w_icmp at_174 (i_eq x y) rfl
theorem m22_177 : M22 177 ls st H Q = M22 178 ls (.int 0 :: st) H Q := w_con at_177 rfl (by decide)
theorem m22_178 : M22 178 ls (.int z :: st) H Q = Q (some (.int (nar .boolean z))) H := w_iretN at_178 rfl (by simp)
theorem m22_179 : M22 179 [l0, l1, l2, l3, l4, l5, l6, l7, l8, l9, l10, l11, .val (.ref r), l13, l14, l15, l16] st H Q = M22 181 [l0, l1, l2, l3, l4, l5, l6, l7, l8, l9, l10, l11, .val (.ref r), l13, l14, l15, l16] (.ref r :: st) H Q := w_x at_179 rfl
theorem m22_181 : M22 181 ls st H Q = M22 182 ls (.int 0 :: st) H Q := w_con at_181 rfl (by decide)
theorem m22_182 (a0 : Int32) : M22 182 ls [.int a0, .ref b] (put b pre s A post) Q = M9 0 [.val (.ref b), .val (.int a0)] [] (put b pre s A post) (fun v H1 => M22 185 ls (v.toList ++ []) H1 Q) := w_virt (as := [.int a0]) (rest := []) (a := b) at_182 cr22_23 put_o rfl rfl (Nat.le_of_ble_eq_true rfl) (by show 2 ≤ 2; omega) rfl
theorem m22_185 : M22 185 ls (.int x :: st) H Q = if x = 0 then M22 190 ls st H Q else M22 188 ls st H Q := w_if at_185 (z_eq x) rfl
theorem m22_188 : M22 188 ls st H Q = M22 189 ls (.int 0 :: st) H Q := w_con at_188 rfl (by decide)
theorem m22_189 : M22 189 ls (.int z :: st) H Q = Q (some (.int (nar .boolean z))) H := w_iretN at_189 rfl (by simp)
theorem m22_190 : M22 190 [l0, l1, l2, l3, l4, l5, l6, l7, l8, l9, l10, l11, .val (.ref r), l13, l14, l15, l16] st H Q = M22 192 [l0, l1, l2, l3, l4, l5, l6, l7, l8, l9, l10, l11, .val (.ref r), l13, l14, l15, l16] (.ref r :: st) H Q := w_x at_190 rfl
theorem m22_192 : M22 192 [l0, l1, l2, l3, l4, l5, l6, l7, .val (.int v), l9, l10, l11, l12, l13, l14, l15, l16] st H Q = M22 194 [l0, l1, l2, l3, l4, l5, l6, l7, .val (.int v), l9, l10, l11, l12, l13, l14, l15, l16] (.int v :: st) H Q := w_x at_192 rfl
theorem m22_194 (a0 : Int32) : M22 194 ls [.int a0, .ref b] (put b pre s A post) Q = M11 0 [.val (.ref b), .val (.int a0)] [] (put b pre s A post) (fun v H1 => M22 197 ls (v.toList ++ []) H1 Q) := w_virt (as := [.int a0]) (rest := []) (a := b) at_194 cr22_26 put_o rfl rfl (Nat.le_of_ble_eq_true rfl) (by show 2 ≤ 2; omega) rfl
theorem m22_197 : M22 197 ls (.int x :: st) H Q = if x = 0 then M22 202 ls st H Q else M22 200 ls st H Q := w_if at_197 (z_eq x) rfl
theorem m22_200 : M22 200 ls st H Q = M22 201 ls (.int 0 :: st) H Q := w_con at_200 rfl (by decide)
theorem m22_201 : M22 201 ls (.int z :: st) H Q = Q (some (.int (nar .boolean z))) H := w_iretN at_201 rfl (by simp)
theorem m22_202 : M22 202 [l0, l1, l2, l3, l4, l5, l6, l7, l8, l9, l10, l11, .val (.ref r), l13, l14, l15, l16] st H Q = M22 204 [l0, l1, l2, l3, l4, l5, l6, l7, l8, l9, l10, l11, .val (.ref r), l13, l14, l15, l16] (.ref r :: st) H Q := w_x at_202 rfl
theorem m22_204 : M22 204 [l0, l1, l2, l3, l4, l5, l6, l7, l8, .val (.int v), l10, l11, l12, l13, l14, l15, l16] st H Q = M22 206 [l0, l1, l2, l3, l4, l5, l6, l7, l8, .val (.int v), l10, l11, l12, l13, l14, l15, l16] (.int v :: st) H Q := w_x at_204 rfl
theorem m22_206 (a0 : Int32) : M22 206 ls [.int a0, .ref b] (put b pre s A post) Q = M11 0 [.val (.ref b), .val (.int a0)] [] (put b pre s A post) (fun v H1 => M22 209 ls (v.toList ++ []) H1 Q) := w_virt (as := [.int a0]) (rest := []) (a := b) at_206 cr22_26 put_o rfl rfl (Nat.le_of_ble_eq_true rfl) (by show 2 ≤ 2; omega) rfl
theorem m22_209 : M22 209 ls (.int x :: st) H Q = if x = 0 then M22 214 ls st H Q else M22 212 ls st H Q := w_if at_209 (z_eq x) rfl
theorem m22_212 : M22 212 ls st H Q = M22 213 ls (.int 0 :: st) H Q := w_con at_212 rfl (by decide)
theorem m22_213 : M22 213 ls (.int z :: st) H Q = Q (some (.int (nar .boolean z))) H := w_iretN at_213 rfl (by simp)
theorem m22_214 : M22 214 [l0, l1, l2, l3, l4, l5, l6, l7, l8, l9, l10, l11, .val (.ref r), l13, l14, l15, l16] st H Q = M22 216 [l0, l1, l2, l3, l4, l5, l6, l7, l8, l9, l10, l11, .val (.ref r), l13, l14, l15, l16] (.ref r :: st) H Q := w_x at_214 rfl
theorem m22_216 : M22 216 ls [.ref b] (put b pre s A post) Q = M12 0 [.val (.ref b), .unset, .unset] [] (put b pre s A post) (fun v H1 => M22 219 ls (v.toList ++ []) H1 Q) := w_virt (as := []) (rest := []) (a := b) at_216 cr22_29 put_o rfl rfl (Nat.le_of_ble_eq_true rfl) (by show 1 ≤ 3; omega) rfl
theorem m22_219 : M22 219 ls st H Q = M22 220 ls (.int 4 :: st) H Q := w_con at_219 rfl (by decide)
theorem m22_220 : M22 220 ls (.int y :: .int x :: st) H Q = if x = y then M22 225 ls st H Q else M22 223 ls st H Q := w_icmp at_220 (i_eq x y) rfl
theorem m22_223 : M22 223 ls st H Q = M22 224 ls (.int 0 :: st) H Q := w_con at_223 rfl (by decide)
theorem m22_224 : M22 224 ls (.int z :: st) H Q = Q (some (.int (nar .boolean z))) H := w_iretN at_224 rfl (by simp)
theorem m22_225 : M22 225 [l0, l1, l2, l3, l4, l5, l6, l7, l8, l9, l10, l11, .val (.ref r), l13, l14, l15, l16] st H Q = M22 227 [l0, l1, l2, l3, l4, l5, l6, l7, l8, l9, l10, l11, .val (.ref r), l13, l14, l15, l16] (.ref r :: st) H Q := w_x at_225 rfl
theorem m22_227 : M22 227 ls st H Q = M22 228 ls (.int 1 :: st) H Q := w_con at_227 rfl (by decide)
theorem m22_228 (a0 : Int32) : M22 228 ls [.int a0, .ref b] (put b pre s A post) Q = M15 0 [.val (.ref b), .val (.int a0)] [] (put b pre s A post) (fun v H1 => M22 231 ls (v.toList ++ []) H1 Q) := w_virt (as := [.int a0]) (rest := []) (a := b) at_228 cr22_32 put_o rfl rfl (Nat.le_of_ble_eq_true rfl) (by show 2 ≤ 2; omega) rfl
theorem m22_231 : M22 231 ls (.int x :: st) H Q = if x = 0 then M22 236 ls st H Q else M22 234 ls st H Q := w_if at_231 (z_eq x) rfl
theorem m22_234 : M22 234 ls st H Q = M22 235 ls (.int 0 :: st) H Q := w_con at_234 rfl (by decide)
theorem m22_235 : M22 235 ls (.int z :: st) H Q = Q (some (.int (nar .boolean z))) H := w_iretN at_235 rfl (by simp)
theorem m22_236 : M22 236 ls st H Q = M22 237 ls (.int 0 :: st) H Q := w_con at_236 rfl (by decide)
theorem m22_237u : M22 237 [l0, l1, l2, l3, l4, l5, l6, l7, l8, l9, l10, l11, l12, .unset, l14, l15, l16] ((.int v) :: st) H Q = M22 239 [l0, l1, l2, l3, l4, l5, l6, l7, l8, l9, l10, l11, l12, .val (.int v), l14, l15, l16] st H Q := w_st (i := 13) (p := isI) at_237 rfl rfl rfl rfl rfl rfl
theorem m22_239 : M22 239 ls st H Q = M22 240 ls (.int 0 :: st) H Q := w_con at_239 rfl (by decide)
theorem m22_240u : M22 240 [l0, l1, l2, l3, l4, l5, l6, l7, l8, l9, l10, l11, l12, l13, .unset, l15, l16] ((.int v) :: st) H Q = M22 242 [l0, l1, l2, l3, l4, l5, l6, l7, l8, l9, l10, l11, l12, l13, .val (.int v), l15, l16] st H Q := w_st (i := 14) (p := isI) at_240 rfl rfl rfl rfl rfl rfl
theorem m22_242 : M22 242 [l0, l1, l2, l3, l4, l5, l6, l7, l8, l9, l10, l11, l12, l13, .val (.int v), l15, l16] st H Q = M22 244 [l0, l1, l2, l3, l4, l5, l6, l7, l8, l9, l10, l11, l12, l13, .val (.int v), l15, l16] (.int v :: st) H Q := w_x at_242 rfl
theorem m22_244 : M22 244 ls st H Q = M22 245 ls (.int 4 :: st) H Q := w_con at_244 rfl (by decide)
theorem m22_245 : M22 245 ls (.int y :: .int x :: st) H Q = if x < y then M22 248 ls st H Q else M22 372 ls st H Q := w_icmpN at_245 (i_ge x y) rfl
theorem m22_248 : M22 248 [l0, l1, l2, l3, l4, l5, l6, l7, l8, l9, l10, l11, l12, l13, .val (.int v), l15, l16] st H Q = M22 250 [l0, l1, l2, l3, l4, l5, l6, l7, l8, l9, l10, l11, l12, l13, .val (.int v), l15, l16] (.int v :: st) H Q := w_x at_248 rfl
theorem m22_250 : M22 250 [l0, l1, l2, l3, l4, l5, l6, l7, .val (.int v), l9, l10, l11, l12, l13, l14, l15, l16] st H Q = M22 252 [l0, l1, l2, l3, l4, l5, l6, l7, .val (.int v), l9, l10, l11, l12, l13, l14, l15, l16] (.int v :: st) H Q := w_x at_250 rfl
theorem m22_252 : M22 252 [l0, l1, l2, l3, l4, l5, l6, l7, l8, .val (.int v), l10, l11, l12, l13, l14, l15, l16] st H Q = M22 254 [l0, l1, l2, l3, l4, l5, l6, l7, l8, .val (.int v), l10, l11, l12, l13, l14, l15, l16] (.int v :: st) H Q := w_x at_252 rfl
theorem m22_254 : M22 254 [l0, l1, l2, l3, l4, l5, l6, l7, l8, l9, .val (.int v), l11, l12, l13, l14, l15, l16] st H Q = M22 256 [l0, l1, l2, l3, l4, l5, l6, l7, l8, l9, .val (.int v), l11, l12, l13, l14, l15, l16] (.int v :: st) H Q := w_x at_254 rfl
theorem m22_256 : M22 256 [l0, l1, l2, l3, l4, l5, l6, l7, l8, l9, l10, .val (.int v), l12, l13, l14, l15, l16] st H Q = M22 258 [l0, l1, l2, l3, l4, l5, l6, l7, l8, l9, l10, .val (.int v), l12, l13, l14, l15, l16] (.int v :: st) H Q := w_x at_256 rfl
theorem cr22_35 : sR tables_1 dn y22 35 = some (y21, method_2_code, 5, (some .int), 5, 45) := sR_of (cR_of (by decide +kernel) rc_21 dn_21 dn_22 (sig := ⟨[.int, .int, .int, .int, .int], some .int⟩) (by decide +kernel) (by decide +kernel) rfl rfl) (by decide +kernel)
theorem m22_258 (a0 : Int32) (a1 : Int32) (a2 : Int32) (a3 : Int32) (a4 : Int32) : M22 258 ls [.int a4, .int a3, .int a2, .int a1, .int a0] H Q = M21 0 [.val (.int a0), .val (.int a1), .val (.int a2), .val (.int a3), .val (.int a4)] [] H (fun v H1 => M22 261 ls (v.toList ++ []) H1 Q) := w_stat (as := [.int a4, .int a3, .int a2, .int a1, .int a0]) (rest := []) at_258 cr22_35 rfl (Nat.le_of_ble_eq_true rfl) (by show 5 ≤ 5; omega) rfl
theorem m22_261u : M22 261 [l0, l1, l2, l3, l4, l5, l6, l7, l8, l9, l10, l11, l12, l13, l14, .unset, l16] ((.int v) :: st) H Q = M22 263 [l0, l1, l2, l3, l4, l5, l6, l7, l8, l9, l10, l11, l12, l13, l14, .val (.int v), l16] st H Q := w_st (i := 15) (p := isI) at_261 rfl rfl rfl rfl rfl rfl
theorem m22_261i : M22 261 [l0, l1, l2, l3, l4, l5, l6, l7, l8, l9, l10, l11, l12, l13, l14, .val (.int z), l16] ((.int v) :: st) H Q = M22 263 [l0, l1, l2, l3, l4, l5, l6, l7, l8, l9, l10, l11, l12, l13, l14, .val (.int v), l16] st H Q := w_st (i := 15) (p := isI) at_261 rfl rfl rfl rfl rfl rfl
theorem m22_261r : M22 261 [l0, l1, l2, l3, l4, l5, l6, l7, l8, l9, l10, l11, l12, l13, l14, .val (.ref q), l16] ((.int v) :: st) H Q = M22 263 [l0, l1, l2, l3, l4, l5, l6, l7, l8, l9, l10, l11, l12, l13, l14, .val (.int v), l16] st H Q := w_st (i := 15) (p := isI) at_261 rfl rfl rfl rfl rfl rfl
theorem m22_261g (h : okS l15) : M22 261 [l0, l1, l2, l3, l4, l5, l6, l7, l8, l9, l10, l11, l12, l13, l14, l15, l16] ((.int v) :: st) H Q = M22 263 [l0, l1, l2, l3, l4, l5, l6, l7, l8, l9, l10, l11, l12, l13, l14, .val (.int v), l16] st H Q := by rcases h with rfl | ⟨z, rfl⟩ <;> first | exact m22_261u | exact m22_261i
theorem m22_263 : M22 263 [l0, l1, l2, l3, l4, l5, l6, l7, l8, l9, l10, l11, l12, l13, .val (.int v), l15, l16] st H Q = M22 265 [l0, l1, l2, l3, l4, l5, l6, l7, l8, l9, l10, l11, l12, l13, .val (.int v), l15, l16] (.int v :: st) H Q := w_x at_263 rfl
theorem m22_265 : M22 265 ls st H Q = M22 266 ls (.int 1 :: st) H Q := w_con at_265 rfl (by decide)
theorem m22_266 : M22 266 ls (.int y :: .int x :: st) H Q = if x < y then M22 329 ls st H Q else M22 269 ls st H Q := w_icmp at_266 (i_lt x y) rfl
theorem m22_269 : M22 269 [l0, l1, l2, l3, l4, l5, l6, l7, l8, l9, l10, l11, l12, l13, .val (.int v), l15, l16] st H Q = M22 271 [l0, l1, l2, l3, l4, l5, l6, l7, l8, l9, l10, l11, l12, l13, .val (.int v), l15, l16] (.int v :: st) H Q := w_x at_269 rfl
theorem m22_271 : M22 271 ls st H Q = M22 272 ls (.int 1 :: st) H Q := w_con at_271 rfl (by decide)
theorem m22_272 : M22 272 ls (.int y :: .int x :: st) H Q = M22 273 ls (.int (x - y) :: st) H Q := w_x at_272 rfl
theorem m22_273 : M22 273 [l0, l1, l2, l3, l4, l5, l6, l7, .val (.int v), l9, l10, l11, l12, l13, l14, l15, l16] st H Q = M22 275 [l0, l1, l2, l3, l4, l5, l6, l7, .val (.int v), l9, l10, l11, l12, l13, l14, l15, l16] (.int v :: st) H Q := w_x at_273 rfl
theorem m22_275 : M22 275 [l0, l1, l2, l3, l4, l5, l6, l7, l8, .val (.int v), l10, l11, l12, l13, l14, l15, l16] st H Q = M22 277 [l0, l1, l2, l3, l4, l5, l6, l7, l8, .val (.int v), l10, l11, l12, l13, l14, l15, l16] (.int v :: st) H Q := w_x at_275 rfl
theorem m22_277 : M22 277 [l0, l1, l2, l3, l4, l5, l6, l7, l8, l9, .val (.int v), l11, l12, l13, l14, l15, l16] st H Q = M22 279 [l0, l1, l2, l3, l4, l5, l6, l7, l8, l9, .val (.int v), l11, l12, l13, l14, l15, l16] (.int v :: st) H Q := w_x at_277 rfl
theorem m22_279 : M22 279 [l0, l1, l2, l3, l4, l5, l6, l7, l8, l9, l10, .val (.int v), l12, l13, l14, l15, l16] st H Q = M22 281 [l0, l1, l2, l3, l4, l5, l6, l7, l8, l9, l10, .val (.int v), l12, l13, l14, l15, l16] (.int v :: st) H Q := w_x at_279 rfl
theorem m22_281 (a0 : Int32) (a1 : Int32) (a2 : Int32) (a3 : Int32) (a4 : Int32) : M22 281 ls [.int a4, .int a3, .int a2, .int a1, .int a0] H Q = M21 0 [.val (.int a0), .val (.int a1), .val (.int a2), .val (.int a3), .val (.int a4)] [] H (fun v H1 => M22 284 ls (v.toList ++ []) H1 Q) := w_stat (as := [.int a4, .int a3, .int a2, .int a1, .int a0]) (rest := []) at_281 cr22_35 rfl (Nat.le_of_ble_eq_true rfl) (by show 5 ≤ 5; omega) rfl
theorem m22_284u : M22 284 [l0, l1, l2, l3, l4, l5, l6, l7, l8, l9, l10, l11, l12, l13, l14, l15, .unset] ((.int v) :: st) H Q = M22 286 [l0, l1, l2, l3, l4, l5, l6, l7, l8, l9, l10, l11, l12, l13, l14, l15, .val (.int v)] st H Q := w_st (i := 16) (p := isI) at_284 rfl rfl rfl rfl rfl rfl
theorem m22_284i : M22 284 [l0, l1, l2, l3, l4, l5, l6, l7, l8, l9, l10, l11, l12, l13, l14, l15, .val (.int z)] ((.int v) :: st) H Q = M22 286 [l0, l1, l2, l3, l4, l5, l6, l7, l8, l9, l10, l11, l12, l13, l14, l15, .val (.int v)] st H Q := w_st (i := 16) (p := isI) at_284 rfl rfl rfl rfl rfl rfl
theorem m22_284r : M22 284 [l0, l1, l2, l3, l4, l5, l6, l7, l8, l9, l10, l11, l12, l13, l14, l15, .val (.ref q)] ((.int v) :: st) H Q = M22 286 [l0, l1, l2, l3, l4, l5, l6, l7, l8, l9, l10, l11, l12, l13, l14, l15, .val (.int v)] st H Q := w_st (i := 16) (p := isI) at_284 rfl rfl rfl rfl rfl rfl
theorem m22_284g (h : okS l16) : M22 284 [l0, l1, l2, l3, l4, l5, l6, l7, l8, l9, l10, l11, l12, l13, l14, l15, l16] ((.int v) :: st) H Q = M22 286 [l0, l1, l2, l3, l4, l5, l6, l7, l8, l9, l10, l11, l12, l13, l14, l15, .val (.int v)] st H Q := by rcases h with rfl | ⟨z, rfl⟩ <;> first | exact m22_284u | exact m22_284i
theorem m22_286 : M22 286 [l0, l1, l2, l3, l4, l5, l6, l7, l8, l9, l10, l11, l12, l13, l14, l15, .val (.int v)] st H Q = M22 288 [l0, l1, l2, l3, l4, l5, l6, l7, l8, l9, l10, l11, l12, l13, l14, l15, .val (.int v)] (.int v :: st) H Q := w_x at_286 rfl
theorem m22_288 : M22 288 [l0, l1, l2, l3, l4, l5, .val (.int v), l7, l8, l9, l10, l11, l12, l13, l14, l15, l16] st H Q = M22 290 [l0, l1, l2, l3, l4, l5, .val (.int v), l7, l8, l9, l10, l11, l12, l13, l14, l15, l16] (.int v :: st) H Q := w_x at_288 rfl
theorem m22_290 : M22 290 ls (.int y :: .int x :: st) H Q = if x = y then M22 293 ls st H Q else M22 329 ls st H Q := w_icmpN at_290 (i_ne x y) rfl
theorem m22_293 : M22 293 [l0, l1, l2, l3, l4, l5, l6, l7, l8, l9, l10, l11, l12, l13, l14, .val (.int v), l16] st H Q = M22 295 [l0, l1, l2, l3, l4, l5, l6, l7, l8, l9, l10, l11, l12, l13, l14, .val (.int v), l16] (.int v :: st) H Q := w_x at_293 rfl
theorem m22_295 : M22 295 [l0, l1, l2, l3, l4, l5, l6, .val (.int v), l8, l9, l10, l11, l12, l13, l14, l15, l16] st H Q = M22 297 [l0, l1, l2, l3, l4, l5, l6, .val (.int v), l8, l9, l10, l11, l12, l13, l14, l15, l16] (.int v :: st) H Q := w_x at_295 rfl
theorem m22_297 : M22 297 ls (.int y :: .int x :: st) H Q = if x = y then M22 300 ls st H Q else M22 329 ls st H Q := w_icmpN at_297 (i_ne x y) rfl
theorem m22_300 : M22 300 [l0, l1, l2, l3, l4, l5, l6, l7, l8, l9, l10, l11, .val (.ref r), l13, l14, l15, l16] st H Q = M22 302 [l0, l1, l2, l3, l4, l5, l6, l7, l8, l9, l10, l11, .val (.ref r), l13, l14, l15, l16] (.ref r :: st) H Q := w_x at_300 rfl
theorem m22_302 : M22 302 [l0, l1, l2, l3, l4, l5, l6, l7, l8, l9, l10, l11, l12, .val (.int v), l14, l15, l16] st H Q = M22 304 [l0, l1, l2, l3, l4, l5, l6, l7, l8, l9, l10, l11, l12, .val (.int v), l14, l15, l16] (.int v :: st) H Q := w_x at_302 rfl
theorem cr22_41 : vR tables_1 dn y22 41 = some (false, y18, prog_1_method_20_code, 2, (some .int), 1, 34) := vR_of (cR_of (by decide +kernel) rc_18 dn_18 dn_22 (sig := ⟨[.int], some .int⟩) (by decide +kernel) (by decide +kernel) rfl rfl) (by decide +kernel) (by decide +kernel) (by decide +kernel)
theorem m22_304 (a0 : Int32) : M22 304 ls [.int a0, .ref b] (put b pre s A post) Q = M18 0 [.val (.ref b), .val (.int a0)] [] (put b pre s A post) (fun v H1 => M22 307 ls (v.toList ++ []) H1 Q) := w_virt (as := [.int a0]) (rest := []) (a := b) at_304 cr22_41 put_o rfl rfl (Nat.le_of_ble_eq_true rfl) (by show 2 ≤ 2; omega) rfl
theorem m22_307 : M22 307 ls (.int x :: st) H Q = if x = 0 then M22 312 ls st H Q else M22 310 ls st H Q := w_if at_307 (z_eq x) rfl
theorem m22_310 : M22 310 ls st H Q = M22 311 ls (.int 0 :: st) H Q := w_con at_310 rfl (by decide)
theorem m22_311 : M22 311 ls (.int z :: st) H Q = Q (some (.int (nar .boolean z))) H := w_iretN at_311 rfl (by simp)
theorem m22_312 : M22 312 [l0, l1, l2, l3, l4, l5, l6, l7, l8, l9, l10, l11, .val (.ref r), l13, l14, l15, l16] st H Q = M22 314 [l0, l1, l2, l3, l4, l5, l6, l7, l8, l9, l10, l11, .val (.ref r), l13, l14, l15, l16] (.ref r :: st) H Q := w_x at_312 rfl
theorem m22_314 : M22 314 [l0, l1, l2, l3, l4, l5, l6, l7, l8, l9, l10, l11, l12, .val (.int v), l14, l15, l16] st H Q = M22 316 [l0, l1, l2, l3, l4, l5, l6, l7, l8, l9, l10, l11, l12, .val (.int v), l14, l15, l16] (.int v :: st) H Q := w_x at_314 rfl
theorem cr22_44 : vR tables_1 dn y22 44 = some (false, y20, prog_1_method_21_code, 2, (some .int), 1, 34) := vR_of (cR_of (by decide +kernel) rc_20 dn_20 dn_22 (sig := ⟨[.int], some .int⟩) (by decide +kernel) (by decide +kernel) rfl rfl) (by decide +kernel) (by decide +kernel) (by decide +kernel)
theorem m22_316 (a0 : Int32) : M22 316 ls [.int a0, .ref b] (put b pre s A post) Q = M20 0 [.val (.ref b), .val (.int a0)] [] (put b pre s A post) (fun v H1 => M22 319 ls (v.toList ++ []) H1 Q) := w_virt (as := [.int a0]) (rest := []) (a := b) at_316 cr22_44 put_o rfl rfl (Nat.le_of_ble_eq_true rfl) (by show 2 ≤ 2; omega) rfl
theorem m22_319 : M22 319 [l0, l1, l2, l3, l4, l5, l6, l7, l8, l9, l10, l11, l12, l13, .val (.int v), l15, l16] st H Q = M22 321 [l0, l1, l2, l3, l4, l5, l6, l7, l8, l9, l10, l11, l12, l13, .val (.int v), l15, l16] (.int v :: st) H Q := w_x at_319 rfl
theorem m22_321 : M22 321 ls (.int y :: .int x :: st) H Q = if x = y then M22 326 ls st H Q else M22 324 ls st H Q := w_icmp at_321 (i_eq x y) rfl
theorem m22_324 : M22 324 ls st H Q = M22 325 ls (.int 0 :: st) H Q := w_con at_324 rfl (by decide)
theorem m22_325 : M22 325 ls (.int z :: st) H Q = Q (some (.int (nar .boolean z))) H := w_iretN at_325 rfl (by simp)
theorem m22_326 : M22 326 [l0, l1, l2, l3, l4, l5, l6, l7, l8, l9, l10, l11, l12, .val (.int v), l14, l15, l16] st H Q = M22 329 [l0, l1, l2, l3, l4, l5, l6, l7, l8, l9, l10, l11, l12, .val (.int (v + 1)), l14, l15, l16] st H Q := w_iinc at_326 rfl (by decide) rfl
theorem m22_329 : M22 329 [l0, l1, l2, l3, l4, l5, l6, l7, l8, l9, l10, l11, l12, l13, l14, .val (.int v), l16] st H Q = M22 331 [l0, l1, l2, l3, l4, l5, l6, l7, l8, l9, l10, l11, l12, l13, l14, .val (.int v), l16] (.int v :: st) H Q := w_x at_329 rfl
theorem m22_331 : M22 331 [l0, l1, l2, l3, l4, l5, l6, .val (.int v), l8, l9, l10, l11, l12, l13, l14, l15, l16] st H Q = M22 333 [l0, l1, l2, l3, l4, l5, l6, .val (.int v), l8, l9, l10, l11, l12, l13, l14, l15, l16] (.int v :: st) H Q := w_x at_331 rfl
theorem m22_333 : M22 333 ls (.int y :: .int x :: st) H Q = if x = y then M22 336 ls st H Q else M22 366 ls st H Q := w_icmpN at_333 (i_ne x y) rfl
theorem m22_336 : M22 336 [l0, l1, l2, l3, l4, l5, l6, l7, l8, l9, l10, l11, .val (.ref r), l13, l14, l15, l16] st H Q = M22 338 [l0, l1, l2, l3, l4, l5, l6, l7, l8, l9, l10, l11, .val (.ref r), l13, l14, l15, l16] (.ref r :: st) H Q := w_x at_336 rfl
theorem m22_338 : M22 338 [l0, l1, l2, l3, l4, l5, l6, l7, l8, l9, l10, l11, l12, .val (.int v), l14, l15, l16] st H Q = M22 340 [l0, l1, l2, l3, l4, l5, l6, l7, l8, l9, l10, l11, l12, .val (.int v), l14, l15, l16] (.int v :: st) H Q := w_x at_338 rfl
theorem m22_340 (a0 : Int32) : M22 340 ls [.int a0, .ref b] (put b pre s A post) Q = M18 0 [.val (.ref b), .val (.int a0)] [] (put b pre s A post) (fun v H1 => M22 343 ls (v.toList ++ []) H1 Q) := w_virt (as := [.int a0]) (rest := []) (a := b) at_340 cr22_41 put_o rfl rfl (Nat.le_of_ble_eq_true rfl) (by show 2 ≤ 2; omega) rfl
theorem m22_343 : M22 343 ls st H Q = M22 344 ls (.int 1 :: st) H Q := w_con at_343 rfl (by decide)
theorem m22_344 : M22 344 ls (.int y :: .int x :: st) H Q = if x = y then M22 349 ls st H Q else M22 347 ls st H Q := w_icmp at_344 (i_eq x y) rfl
theorem m22_347 : M22 347 ls st H Q = M22 348 ls (.int 0 :: st) H Q := w_con at_347 rfl (by decide)
theorem m22_348 : M22 348 ls (.int z :: st) H Q = Q (some (.int (nar .boolean z))) H := w_iretN at_348 rfl (by simp)
theorem m22_349 : M22 349 [l0, l1, l2, l3, l4, l5, l6, l7, l8, l9, l10, l11, .val (.ref r), l13, l14, l15, l16] st H Q = M22 351 [l0, l1, l2, l3, l4, l5, l6, l7, l8, l9, l10, l11, .val (.ref r), l13, l14, l15, l16] (.ref r :: st) H Q := w_x at_349 rfl
theorem m22_351 : M22 351 [l0, l1, l2, l3, l4, l5, l6, l7, l8, l9, l10, l11, l12, .val (.int v), l14, l15, l16] st H Q = M22 353 [l0, l1, l2, l3, l4, l5, l6, l7, l8, l9, l10, l11, l12, .val (.int v), l14, l15, l16] (.int v :: st) H Q := w_x at_351 rfl
theorem m22_353 (a0 : Int32) : M22 353 ls [.int a0, .ref b] (put b pre s A post) Q = M20 0 [.val (.ref b), .val (.int a0)] [] (put b pre s A post) (fun v H1 => M22 356 ls (v.toList ++ []) H1 Q) := w_virt (as := [.int a0]) (rest := []) (a := b) at_353 cr22_44 put_o rfl rfl (Nat.le_of_ble_eq_true rfl) (by show 2 ≤ 2; omega) rfl
theorem m22_356 : M22 356 [l0, l1, l2, l3, l4, l5, l6, l7, l8, l9, l10, l11, l12, l13, .val (.int v), l15, l16] st H Q = M22 358 [l0, l1, l2, l3, l4, l5, l6, l7, l8, l9, l10, l11, l12, l13, .val (.int v), l15, l16] (.int v :: st) H Q := w_x at_356 rfl
theorem m22_358 : M22 358 ls (.int y :: .int x :: st) H Q = if x = y then M22 363 ls st H Q else M22 361 ls st H Q := w_icmp at_358 (i_eq x y) rfl
theorem m22_361 : M22 361 ls st H Q = M22 362 ls (.int 0 :: st) H Q := w_con at_361 rfl (by decide)
theorem m22_362 : M22 362 ls (.int z :: st) H Q = Q (some (.int (nar .boolean z))) H := w_iretN at_362 rfl (by simp)
theorem m22_363 : M22 363 [l0, l1, l2, l3, l4, l5, l6, l7, l8, l9, l10, l11, l12, .val (.int v), l14, l15, l16] st H Q = M22 366 [l0, l1, l2, l3, l4, l5, l6, l7, l8, l9, l10, l11, l12, .val (.int (v + 1)), l14, l15, l16] st H Q := w_iinc at_363 rfl (by decide) rfl
theorem m22_366 : M22 366 [l0, l1, l2, l3, l4, l5, l6, l7, l8, l9, l10, l11, l12, l13, .val (.int v), l15, l16] st H Q = M22 369 [l0, l1, l2, l3, l4, l5, l6, l7, l8, l9, l10, l11, l12, l13, .val (.int (v + 1)), l15, l16] st H Q := w_iinc at_366 rfl (by decide) rfl
theorem m22_369 : M22 369 ls st H Q = M22 242 ls st H Q := w_x at_369 rfl
theorem m22_372 : M22 372 [l0, l1, l2, l3, l4, l5, l6, l7, l8, l9, l10, l11, .val (.ref r), l13, l14, l15, l16] st H Q = M22 374 [l0, l1, l2, l3, l4, l5, l6, l7, l8, l9, l10, l11, .val (.ref r), l13, l14, l15, l16] (.ref r :: st) H Q := w_x at_372 rfl
theorem m22_374 : M22 374 ls st H Q = M22 375 ls (.int 5 :: st) H Q := w_con at_374 rfl (by decide)
theorem m22_375 (a0 : Int32) : M22 375 ls [.int a0, .ref b] (put b pre s A post) Q = M15 0 [.val (.ref b), .val (.int a0)] [] (put b pre s A post) (fun v H1 => M22 378 ls (v.toList ++ []) H1 Q) := w_virt (as := [.int a0]) (rest := []) (a := b) at_375 cr22_32 put_o rfl rfl (Nat.le_of_ble_eq_true rfl) (by show 2 ≤ 2; omega) rfl
theorem m22_378 : M22 378 [l0, l1, l2, l3, l4, l5, l6, l7, l8, l9, l10, l11, l12, .val (.int v), l14, l15, l16] st H Q = M22 380 [l0, l1, l2, l3, l4, l5, l6, l7, l8, l9, l10, l11, l12, .val (.int v), l14, l15, l16] (.int v :: st) H Q := w_x at_378 rfl
theorem m22_380 : M22 380 ls (.int y :: .int x :: st) H Q = if x = y then M22 385 ls st H Q else M22 383 ls st H Q := w_icmp at_380 (i_eq x y) rfl
theorem m22_383 : M22 383 ls st H Q = M22 384 ls (.int 0 :: st) H Q := w_con at_383 rfl (by decide)
theorem m22_384 : M22 384 ls (.int z :: st) H Q = Q (some (.int (nar .boolean z))) H := w_iretN at_384 rfl (by simp)
theorem m22_385 : M22 385 [l0, l1, l2, l3, l4, l5, l6, l7, l8, l9, l10, l11, .val (.ref r), l13, l14, l15, l16] st H Q = M22 387 [l0, l1, l2, l3, l4, l5, l6, l7, l8, l9, l10, l11, .val (.ref r), l13, l14, l15, l16] (.ref r :: st) H Q := w_x at_385 rfl
theorem m22_387 : M22 387 [l0, l1, l2, l3, l4, l5, l6, l7, l8, l9, l10, l11, l12, .val (.int v), l14, l15, l16] st H Q = M22 389 [l0, l1, l2, l3, l4, l5, l6, l7, l8, l9, l10, l11, l12, .val (.int v), l14, l15, l16] (.int v :: st) H Q := w_x at_387 rfl
theorem m22_389 (a0 : Int32) : M22 389 ls [.int a0, .ref b] (put b pre s A post) Q = M18 0 [.val (.ref b), .val (.int a0)] [] (put b pre s A post) (fun v H1 => M22 392 ls (v.toList ++ []) H1 Q) := w_virt (as := [.int a0]) (rest := []) (a := b) at_389 cr22_41 put_o rfl rfl (Nat.le_of_ble_eq_true rfl) (by show 2 ≤ 2; omega) rfl
theorem m22_392 : M22 392 ls st H Q = M22 393 ls (.int (-1) :: st) H Q := w_con at_392 rfl (by decide)
theorem m22_393 : M22 393 ls (.int y :: .int x :: st) H Q = if x = y then M22 398 ls st H Q else M22 396 ls st H Q := w_icmp at_393 (i_eq x y) rfl
theorem m22_396 : M22 396 ls st H Q = M22 397 ls (.int 0 :: st) H Q := w_con at_396 rfl (by decide)
theorem m22_397 : M22 397 ls (.int z :: st) H Q = Q (some (.int (nar .boolean z))) H := w_iretN at_397 rfl (by simp)
theorem m22_398 : M22 398 ls st H Q = M22 399 ls (.int 1 :: st) H Q := w_con at_398 rfl (by decide)
theorem m22_399 : M22 399 ls (.int z :: st) H Q = Q (some (.int (nar .boolean z))) H := w_iretN at_399 rfl (by simp)
theorem pf0_7 : pfR tables_1 y0.cls y0.name 7 = some ("StreamSigScanner", 0, .array .int) := by decide +kernel
theorem m0_4a (hH : H.length = b) {vs : List Value} {r : AHeap} (hj : 0 < vs.length) : M0 4 (.val (.ref b) :: [l1, l2]) [] (H ++ (.object "StreamSigScanner", vs) :: r) Q = M0 12 (.val (.ref b) :: [l1, l2]) [] (H ++ (.object "StreamSigScanner", vs.set 0 (.ref (b + (r.length + 1)))) :: (r ++ [(.array .int, List.replicate 64 (.int 0))])) Q := w_iarr (n := 64) rfl hH (Nat.zero_le _) (show decode kb0 4 = .ok (.aload_n 0, 1) from by decide +kernel) rfl (show decode kb0 5 = .ok (.bipush 64, 2) from by decide +kernel) (fun _ => rfl) (by decide) (show decode kb0 7 = .ok (.newarray .int, 2) from by decide +kernel) rfl (by decide +kernel) (by decide) (by decide) rfl (show decode kb0 9 = .ok (.putfield 7, 3) from by decide +kernel) pf0_7 hj
theorem pf0_13 : pfR tables_1 y0.cls y0.name 13 = some ("StreamSigScanner", 1, .array .int) := by decide +kernel
theorem m0_12a (hH : H.length = b) {vs : List Value} {r : AHeap} (hj : 1 < vs.length) : M0 12 (.val (.ref b) :: [l1, l2]) [] (H ++ (.object "StreamSigScanner", vs) :: r) Q = M0 20 (.val (.ref b) :: [l1, l2]) [] (H ++ (.object "StreamSigScanner", vs.set 1 (.ref (b + (r.length + 1)))) :: (r ++ [(.array .int, List.replicate 16 (.int 0))])) Q := w_iarr (n := 16) rfl hH (Nat.zero_le _) (show decode kb0 12 = .ok (.aload_n 0, 1) from by decide +kernel) rfl (show decode kb0 13 = .ok (.bipush 16, 2) from by decide +kernel) (fun _ => rfl) (by decide) (show decode kb0 15 = .ok (.newarray .int, 2) from by decide +kernel) rfl (by decide +kernel) (by decide) (by decide) rfl (show decode kb0 17 = .ok (.putfield 13, 3) from by decide +kernel) pf0_13 hj
theorem pf0_16 : pfR tables_1 y0.cls y0.name 16 = some ("StreamSigScanner", 2, .array .int) := by decide +kernel
theorem m0_20a (hH : H.length = b) {vs : List Value} {r : AHeap} (hj : 2 < vs.length) : M0 20 (.val (.ref b) :: [l1, l2]) [] (H ++ (.object "StreamSigScanner", vs) :: r) Q = M0 28 (.val (.ref b) :: [l1, l2]) [] (H ++ (.object "StreamSigScanner", vs.set 2 (.ref (b + (r.length + 1)))) :: (r ++ [(.array .int, List.replicate 16 (.int 0))])) Q := w_iarr (n := 16) rfl hH (Nat.zero_le _) (show decode kb0 20 = .ok (.aload_n 0, 1) from by decide +kernel) rfl (show decode kb0 21 = .ok (.bipush 16, 2) from by decide +kernel) (fun _ => rfl) (by decide) (show decode kb0 23 = .ok (.newarray .int, 2) from by decide +kernel) rfl (by decide +kernel) (by decide) (by decide) rfl (show decode kb0 25 = .ok (.putfield 16, 3) from by decide +kernel) pf0_16 hj
theorem pf0_19 : pfR tables_1 y0.cls y0.name 19 = some ("StreamSigScanner", 3, .array .int) := by decide +kernel
theorem m0_28a (hH : H.length = b) {vs : List Value} {r : AHeap} (hj : 3 < vs.length) : M0 28 (.val (.ref b) :: [l1, l2]) [] (H ++ (.object "StreamSigScanner", vs) :: r) Q = M0 37 (.val (.ref b) :: [l1, l2]) [] (H ++ (.object "StreamSigScanner", vs.set 3 (.ref (b + (r.length + 1)))) :: (r ++ [(.array .int, List.replicate 16640 (.int 0))])) Q := w_iarr (n := 16640) rfl hH (Nat.zero_le _) (show decode kb0 28 = .ok (.aload_n 0, 1) from by decide +kernel) rfl (show decode kb0 29 = .ok (.sipush 16640, 3) from by decide +kernel) (fun _ => rfl) (by decide) (show decode kb0 32 = .ok (.newarray .int, 2) from by decide +kernel) rfl (by decide +kernel) (by decide) (by decide) rfl (show decode kb0 34 = .ok (.putfield 19, 3) from by decide +kernel) pf0_19 hj
theorem pf0_22 : pfR tables_1 y0.cls y0.name 22 = some ("StreamSigScanner", 4, .array .int) := by decide +kernel
theorem m0_37a (hH : H.length = b) {vs : List Value} {r : AHeap} (hj : 4 < vs.length) : M0 37 (.val (.ref b) :: [l1, l2]) [] (H ++ (.object "StreamSigScanner", vs) :: r) Q = M0 45 (.val (.ref b) :: [l1, l2]) [] (H ++ (.object "StreamSigScanner", vs.set 4 (.ref (b + (r.length + 1)))) :: (r ++ [(.array .int, List.replicate 65 (.int 0))])) Q := w_iarr (n := 65) rfl hH (Nat.zero_le _) (show decode kb0 37 = .ok (.aload_n 0, 1) from by decide +kernel) rfl (show decode kb0 38 = .ok (.bipush 65, 2) from by decide +kernel) (fun _ => rfl) (by decide) (show decode kb0 40 = .ok (.newarray .int, 2) from by decide +kernel) rfl (by decide +kernel) (by decide) (by decide) rfl (show decode kb0 42 = .ok (.putfield 22, 3) from by decide +kernel) pf0_22 hj
theorem pf0_25 : pfR tables_1 y0.cls y0.name 25 = some ("StreamSigScanner", 5, .array .int) := by decide +kernel
theorem m0_45a (hH : H.length = b) {vs : List Value} {r : AHeap} (hj : 5 < vs.length) : M0 45 (.val (.ref b) :: [l1, l2]) [] (H ++ (.object "StreamSigScanner", vs) :: r) Q = M0 53 (.val (.ref b) :: [l1, l2]) [] (H ++ (.object "StreamSigScanner", vs.set 5 (.ref (b + (r.length + 1)))) :: (r ++ [(.array .int, List.replicate 65 (.int 0))])) Q := w_iarr (n := 65) rfl hH (Nat.zero_le _) (show decode kb0 45 = .ok (.aload_n 0, 1) from by decide +kernel) rfl (show decode kb0 46 = .ok (.bipush 65, 2) from by decide +kernel) (fun _ => rfl) (by decide) (show decode kb0 48 = .ok (.newarray .int, 2) from by decide +kernel) rfl (by decide +kernel) (by decide) (by decide) rfl (show decode kb0 50 = .ok (.putfield 25, 3) from by decide +kernel) pf0_25 hj
theorem pf0_28 : pfR tables_1 y0.cls y0.name 28 = some ("StreamSigScanner", 6, .array .int) := by decide +kernel
theorem m0_53a (hH : H.length = b) {vs : List Value} {r : AHeap} (hj : 6 < vs.length) : M0 53 (.val (.ref b) :: [l1, l2]) [] (H ++ (.object "StreamSigScanner", vs) :: r) Q = M0 61 (.val (.ref b) :: [l1, l2]) [] (H ++ (.object "StreamSigScanner", vs.set 6 (.ref (b + (r.length + 1)))) :: (r ++ [(.array .int, List.replicate 65 (.int 0))])) Q := w_iarr (n := 65) rfl hH (Nat.zero_le _) (show decode kb0 53 = .ok (.aload_n 0, 1) from by decide +kernel) rfl (show decode kb0 54 = .ok (.bipush 65, 2) from by decide +kernel) (fun _ => rfl) (by decide) (show decode kb0 56 = .ok (.newarray .int, 2) from by decide +kernel) rfl (by decide +kernel) (by decide) (by decide) rfl (show decode kb0 58 = .ok (.putfield 28, 3) from by decide +kernel) pf0_28 hj
theorem pf0_31 : pfR tables_1 y0.cls y0.name 31 = some ("StreamSigScanner", 7, .array .boolean) := by decide +kernel
theorem m0_61a (hH : H.length = b) {vs : List Value} {r : AHeap} (hj : 7 < vs.length) : M0 61 (.val (.ref b) :: [l1, l2]) [] (H ++ (.object "StreamSigScanner", vs) :: r) Q = M0 70 (.val (.ref b) :: [l1, l2]) [] (H ++ (.object "StreamSigScanner", vs.set 7 (.ref (b + (r.length + 1)))) :: (r ++ [(.array .boolean, List.replicate 256 (.int 0))])) Q := w_iarr (n := 256) rfl hH (Nat.zero_le _) (show decode kb0 61 = .ok (.aload_n 0, 1) from by decide +kernel) rfl (show decode kb0 62 = .ok (.sipush 256, 3) from by decide +kernel) (fun _ => rfl) (by decide) (show decode kb0 65 = .ok (.newarray .boolean, 2) from by decide +kernel) rfl (by decide +kernel) (by decide) (by decide) rfl (show decode kb0 67 = .ok (.putfield 31, 3) from by decide +kernel) pf0_31 hj
theorem pf0_35 : pfR tables_1 y0.cls y0.name 35 = some ("StreamSigScanner", 8, .array .int) := by decide +kernel
theorem m0_70a (hH : H.length = b) {vs : List Value} {r : AHeap} (hj : 8 < vs.length) : M0 70 (.val (.ref b) :: [l1, l2]) [] (H ++ (.object "StreamSigScanner", vs) :: r) Q = M0 79 (.val (.ref b) :: [l1, l2]) [] (H ++ (.object "StreamSigScanner", vs.set 8 (.ref (b + (r.length + 1)))) :: (r ++ [(.array .int, List.replicate 256 (.int 0))])) Q := w_iarr (n := 256) rfl hH (Nat.zero_le _) (show decode kb0 70 = .ok (.aload_n 0, 1) from by decide +kernel) rfl (show decode kb0 71 = .ok (.sipush 256, 3) from by decide +kernel) (fun _ => rfl) (by decide) (show decode kb0 74 = .ok (.newarray .int, 2) from by decide +kernel) rfl (by decide +kernel) (by decide) (by decide) rfl (show decode kb0 76 = .ok (.putfield 35, 3) from by decide +kernel) pf0_35 hj
theorem pf0_38 : pfR tables_1 y0.cls y0.name 38 = some ("StreamSigScanner", 9, .array .int) := by decide +kernel
theorem m0_79a (hH : H.length = b) {vs : List Value} {r : AHeap} (hj : 9 < vs.length) : M0 79 (.val (.ref b) :: [l1, l2]) [] (H ++ (.object "StreamSigScanner", vs) :: r) Q = M0 87 (.val (.ref b) :: [l1, l2]) [] (H ++ (.object "StreamSigScanner", vs.set 9 (.ref (b + (r.length + 1)))) :: (r ++ [(.array .int, List.replicate 16 (.int 0))])) Q := w_iarr (n := 16) rfl hH (Nat.zero_le _) (show decode kb0 79 = .ok (.aload_n 0, 1) from by decide +kernel) rfl (show decode kb0 80 = .ok (.bipush 16, 2) from by decide +kernel) (fun _ => rfl) (by decide) (show decode kb0 82 = .ok (.newarray .int, 2) from by decide +kernel) rfl (by decide +kernel) (by decide) (by decide) rfl (show decode kb0 84 = .ok (.putfield 38, 3) from by decide +kernel) pf0_38 hj
theorem pf0_41 : pfR tables_1 y0.cls y0.name 41 = some ("StreamSigScanner", 10, .array .int) := by decide +kernel
theorem m0_87a (hH : H.length = b) {vs : List Value} {r : AHeap} (hj : 10 < vs.length) : M0 87 (.val (.ref b) :: [l1, l2]) [] (H ++ (.object "StreamSigScanner", vs) :: r) Q = M0 95 (.val (.ref b) :: [l1, l2]) [] (H ++ (.object "StreamSigScanner", vs.set 10 (.ref (b + (r.length + 1)))) :: (r ++ [(.array .int, List.replicate 64 (.int 0))])) Q := w_iarr (n := 64) rfl hH (Nat.zero_le _) (show decode kb0 87 = .ok (.aload_n 0, 1) from by decide +kernel) rfl (show decode kb0 88 = .ok (.bipush 64, 2) from by decide +kernel) (fun _ => rfl) (by decide) (show decode kb0 90 = .ok (.newarray .int, 2) from by decide +kernel) rfl (by decide +kernel) (by decide) (by decide) rfl (show decode kb0 92 = .ok (.putfield 41, 3) from by decide +kernel) pf0_41 hj
theorem pf0_44 : pfR tables_1 y0.cls y0.name 44 = some ("StreamSigScanner", 11, .array .int) := by decide +kernel
theorem m0_95a (hH : H.length = b) {vs : List Value} {r : AHeap} (hj : 11 < vs.length) : M0 95 (.val (.ref b) :: [l1, l2]) [] (H ++ (.object "StreamSigScanner", vs) :: r) Q = M0 103 (.val (.ref b) :: [l1, l2]) [] (H ++ (.object "StreamSigScanner", vs.set 11 (.ref (b + (r.length + 1)))) :: (r ++ [(.array .int, List.replicate 64 (.int 0))])) Q := w_iarr (n := 64) rfl hH (Nat.zero_le _) (show decode kb0 95 = .ok (.aload_n 0, 1) from by decide +kernel) rfl (show decode kb0 96 = .ok (.bipush 64, 2) from by decide +kernel) (fun _ => rfl) (by decide) (show decode kb0 98 = .ok (.newarray .int, 2) from by decide +kernel) rfl (by decide +kernel) (by decide) (by decide) rfl (show decode kb0 100 = .ok (.putfield 44, 3) from by decide +kernel) pf0_44 hj
def A0 : Nat → List Int32
  | 0 => List.replicate 64 0
  | 1 => List.replicate 16 0
  | 2 => List.replicate 16 0
  | 3 => List.replicate 16640 0
  | 4 => List.replicate 65 0
  | 5 => List.replicate 65 0
  | 6 => List.replicate 65 0
  | 7 => List.replicate 256 0
  | 8 => List.replicate 256 0
  | 9 => List.replicate 16 0
  | 10 => List.replicate 64 0
  | 11 => List.replicate 64 0
  | _ => []
theorem A0l_0 : (A0 0).length = 64 := List.length_replicate
theorem A0g_0 (j : Int32) : getA (A0 0) j = 0 := getA_rep _ _
theorem A0l_1 : (A0 1).length = 16 := List.length_replicate
theorem A0g_1 (j : Int32) : getA (A0 1) j = 0 := getA_rep _ _
theorem A0l_2 : (A0 2).length = 16 := List.length_replicate
theorem A0g_2 (j : Int32) : getA (A0 2) j = 0 := getA_rep _ _
theorem A0l_3 : (A0 3).length = 16640 := List.length_replicate
theorem A0g_3 (j : Int32) : getA (A0 3) j = 0 := getA_rep _ _
theorem A0l_4 : (A0 4).length = 65 := List.length_replicate
theorem A0g_4 (j : Int32) : getA (A0 4) j = 0 := getA_rep _ _
theorem A0l_5 : (A0 5).length = 65 := List.length_replicate
theorem A0g_5 (j : Int32) : getA (A0 5) j = 0 := getA_rep _ _
theorem A0l_6 : (A0 6).length = 65 := List.length_replicate
theorem A0g_6 (j : Int32) : getA (A0 6) j = 0 := getA_rep _ _
theorem A0l_7 : (A0 7).length = 256 := List.length_replicate
theorem A0g_7 (j : Int32) : getA (A0 7) j = 0 := getA_rep _ _
theorem A0l_8 : (A0 8).length = 256 := List.length_replicate
theorem A0g_8 (j : Int32) : getA (A0 8) j = 0 := getA_rep _ _
theorem A0l_9 : (A0 9).length = 16 := List.length_replicate
theorem A0g_9 (j : Int32) : getA (A0 9) j = 0 := getA_rep _ _
theorem A0l_10 : (A0 10).length = 64 := List.length_replicate
theorem A0g_10 (j : Int32) : getA (A0 10) j = 0 := getA_rep _ _
theorem A0l_11 : (A0 11).length = 64 := List.length_replicate
theorem A0g_11 (j : Int32) : getA (A0 11) j = 0 := getA_rep _ _
theorem own_ctor0 (hb : pre.length = b) : M0 0 (.val (.ref b) :: [l1, l2]) [] (pre ++ [(.object "StreamSigScanner", D0)]) Q = M0 103 (.val (.ref b) :: [l1, l2]) [] (put b pre (fun _ => 0) A0 []) Q := by
  rw [m0_0, m0_1, m0_4a hb (by (repeat rw [List.length_set]); exact Nat.le_of_ble_eq_true rfl), m0_12a hb (by (repeat rw [List.length_set]); exact Nat.le_of_ble_eq_true rfl), m0_20a hb (by (repeat rw [List.length_set]); exact Nat.le_of_ble_eq_true rfl), m0_28a hb (by (repeat rw [List.length_set]); exact Nat.le_of_ble_eq_true rfl), m0_37a hb (by (repeat rw [List.length_set]); exact Nat.le_of_ble_eq_true rfl), m0_45a hb (by (repeat rw [List.length_set]); exact Nat.le_of_ble_eq_true rfl), m0_53a hb (by (repeat rw [List.length_set]); exact Nat.le_of_ble_eq_true rfl), m0_61a hb (by (repeat rw [List.length_set]); exact Nat.le_of_ble_eq_true rfl), m0_70a hb (by (repeat rw [List.length_set]); exact Nat.le_of_ble_eq_true rfl), m0_79a hb (by (repeat rw [List.length_set]); exact Nat.le_of_ble_eq_true rfl), m0_87a hb (by (repeat rw [List.length_set]); exact Nat.le_of_ble_eq_true rfl), m0_95a hb (by (repeat rw [List.length_set]); exact Nat.le_of_ble_eq_true rfl)]
  simp only [put, pad_eq hb, objv, D0, A0, List.map_replicate, List.set_cons_succ, List.set_cons_zero, List.nil_append, List.cons_append, List.length_cons, List.length_nil, List.append_nil]
end Rules
/- methods: 0=StreamSigScanner.<init>(I)V; 1=StreamSigScanner.addSigByte(I)I; 2=StreamSigScanner.isByte(I)Z; 3=StreamSigScanner.endSig()I; 4=StreamSigScanner.compile()I; 5=StreamSigScanner.buildTrie()V; 6=StreamSigScanner.clearAutomaton()V; 7=StreamSigScanner.insertSig(I)V; 8=StreamSigScanner.buildAutomaton()V; 9=StreamSigScanner.openSegment(I)I; 10=StreamSigScanner.isOffset(I)Z; 11=StreamSigScanner.segByte(I)I; 12=StreamSigScanner.closeSegment()I; 13=StreamSigScanner.absorbByte(III)V; 14=StreamSigScanner.advanceDelivered()V; 15=StreamSigScanner.stat(I)I; 16=StreamSigScanner.feed(II)V; 17=StreamSigScanner.recordMatch(II)V; 18=StreamSigScanner.matchSig(I)I; 19=StreamSigScanner.validRecord(I)Z; 20=StreamSigScanner.matchEnd(I)I; 21=StreamSigScannerL3.at(IIIII)I; 22=StreamSigScannerL3.law(IIIIII)Z -/
def LN (A : Nat → List Int32) : Prop := ∀ i, (A i).length = (A0 i).length
theorem LN_ou {A : Nat → List Int32} {j : Nat} {l : List Int32} (h : LN A) (hl : l.length = (A0 j).length) : LN (ou A j l) := len_ou h hl
theorem in_lt {A : Nat → List Int32} {k : Nat} {j n : Int32} (h : LN A) (hk : ((A0 k).length : Int) = n.toInt) (h0 : ¬ j < 0) (h1 : j < n) : inB j (A k) := inB_lt (by rw [h k]; exact hk) h0 h1
theorem l3 : ((A0 3).length : Int) = (16640 : Int32).toInt := by rw [A0l_3]; rfl
theorem l4 : ((A0 4).length : Int) = (65 : Int32).toInt := by rw [A0l_4]; rfl
theorem l5 : ((A0 5).length : Int) = (65 : Int32).toInt := by rw [A0l_5]; rfl
theorem l6 : ((A0 6).length : Int) = (65 : Int32).toInt := by rw [A0l_6]; rfl
theorem i_16640 : (16640 : Int32).toInt = 16640 := rfl
theorem i_65 : (65 : Int32).toInt = 65 := rfl
theorem i_256 : (256 : Int32).toInt = 256 := rfl
theorem ou_id {A : Nat → List Int32} {k : Nat} {l : List Int32} (h : l = A k) : ou A k l = A := by
  funext j
  rw [ou_a]
  split
  · rename_i e; rw [e, h]
  · rfl
theorem set0 (n : Nat) (i : Int32) : setA (List.replicate n (0 : Int32)) i 0 = List.replicate n 0 := by
  apply List.ext_getElem
  · simp [setA]
  · intro k h1 h2
    simp only [setA, List.getElem_set, List.getElem_replicate, ite_self]
section Scan
variable {Q : Option Value → AHeap → Prop} {s : Nat → Int32} {A : Nat → List Int32}
theorem c6b (h : LN A) (h4 : A 4 = List.replicate 65 0) (h5 : A 5 = List.replicate 65 0) (h6 : A 6 = List.replicate 65 0) (hQ : Q none (put 0 [] s A [])) : ∀ (n : Nat) (i : Int32), ¬ i < 0 → i.toInt + n = 65 → M6 24 [.val (.ref 0), .val (.int i)] [] (put 0 [] s A []) Q := by
  intro n
  induction n with
  | zero =>
    intro i h0 e
    have hge : ¬ i < 65 := by rw [lt_i, i_65]; omega
    rw [m6_24]
    simp [hge, m6_0, m6_1u, m6_3, m6_6, m6_9, m6_10, m6_13, m6_14, m6_15, m6_16, m6_19, m6_22, m6_23i, m6_25, m6_27, m6_30, m6_31, m6_34, m6_35, m6_36, m6_37, m6_38, m6_41, m6_42, m6_43, m6_44, m6_45, m6_48, m6_49, m6_50, m6_51, m6_54, m6_57, nb0, nb1, ou_a, Option.toList_some, Option.toList_none, List.nil_append, List.cons_append]
    exact hQ
  | succ n ih =>
    intro i h0 e
    have hlt : i < 65 := by rw [lt_i, i_65]; omega
    have k4 := in_lt h l4 h0 hlt
    have k5 := in_lt h l5 h0 hlt
    have k6 := in_lt h l6 h0 hlt
    rw [m6_24]
    simp [hlt, k4, k5, k6, m6_0, m6_1u, m6_3, m6_6, m6_9, m6_10, m6_13, m6_14, m6_15, m6_16, m6_19, m6_22, m6_23i, m6_25, m6_27, m6_30, m6_31, m6_34, m6_35, m6_36, m6_37, m6_38, m6_41, m6_42, m6_43, m6_44, m6_45, m6_48, m6_49, m6_50, m6_51, m6_54, m6_57, nb0, nb1, ou_a, Option.toList_some, Option.toList_none, List.nil_append, List.cons_append]
    rw [ou_id (k := 4) (by rw [h4, set0]), ou_id (k := 5) (by rw [h5, set0]), ou_id (k := 6) (by rw [h6, set0])]
    exact ih _ (succ_nn h0 (by omega)) (by rw [add1_i (by omega)]; omega)
theorem c6a (h : LN A) (h3 : A 3 = List.replicate 16640 0) (h4 : A 4 = List.replicate 65 0) (h5 : A 5 = List.replicate 65 0) (h6 : A 6 = List.replicate 65 0) (hQ : Q none (put 0 [] s A [])) : ∀ (n : Nat) (i : Int32), ¬ i < 0 → i.toInt + n = 16640 → M6 2 [.val (.ref 0), .val (.int i)] [] (put 0 [] s A []) Q := by
  intro n
  induction n with
  | zero =>
    intro i h0 e
    have hge : ¬ i < 16640 := by rw [lt_i, i_16640]; omega
    rw [m6_2]
    simp [hge, m6_0, m6_1u, m6_3, m6_6, m6_9, m6_10, m6_13, m6_14, m6_15, m6_16, m6_19, m6_22, m6_23i, m6_25, m6_27, m6_30, m6_31, m6_34, m6_35, m6_36, m6_37, m6_38, m6_41, m6_42, m6_43, m6_44, m6_45, m6_48, m6_49, m6_50, m6_51, m6_54, m6_57, nb0, nb1, ou_a, Option.toList_some, Option.toList_none, List.nil_append, List.cons_append]
    exact c6b h h4 h5 h6 hQ 65 0 (by decide) rfl
  | succ n ih =>
    intro i h0 e
    have hlt : i < 16640 := by rw [lt_i, i_16640]; omega
    have k3 := in_lt h l3 h0 hlt
    rw [m6_2]
    simp [hlt, k3, m6_0, m6_1u, m6_3, m6_6, m6_9, m6_10, m6_13, m6_14, m6_15, m6_16, m6_19, m6_22, m6_23i, m6_25, m6_27, m6_30, m6_31, m6_34, m6_35, m6_36, m6_37, m6_38, m6_41, m6_42, m6_43, m6_44, m6_45, m6_48, m6_49, m6_50, m6_51, m6_54, m6_57, nb0, nb1, ou_a, Option.toList_some, Option.toList_none, List.nil_append, List.cons_append]
    rw [ou_id (k := 3) (by rw [h3, set0])]
    exact ih _ (succ_nn h0 (by omega)) (by rw [add1_i (by omega)]; omega)
theorem c6 (h : LN A) (h3 : A 3 = List.replicate 16640 0) (h4 : A 4 = List.replicate 65 0) (h5 : A 5 = List.replicate 65 0) (h6 : A 6 = List.replicate 65 0) (hQ : Q none (put 0 [] s A [])) : M6 0 [.val (.ref 0), .unset] [] (put 0 [] s A []) Q := by
  simp [m6_0, m6_1u, m6_3, m6_6, m6_9, m6_10, m6_13, m6_14, m6_15, m6_16, m6_19, m6_22, m6_23i, m6_25, m6_27, m6_30, m6_31, m6_34, m6_35, m6_36, m6_37, m6_38, m6_41, m6_42, m6_43, m6_44, m6_45, m6_48, m6_49, m6_50, m6_51, m6_54, m6_57, nb0, nb1, ou_a, Option.toList_some, Option.toList_none, List.nil_append, List.cons_append]
  exact c6a h h3 h4 h5 h6 hQ 16640 0 (by decide) rfl
set_option maxRecDepth 1000000 in
set_option maxHeartbeats 20000000 in
theorem sk1 (h : LN A) {tl cE : Int32} (hE : cE.toInt ≤ 256) (hQ : ∀ k3 : Slot, okS k3 → M8 4 [.val (.ref 0), .val (.int tl), .val (.int cE), k3, .unset, .unset, .unset, .unset, .unset] [] (put 0 [] s A []) Q) : ∀ (n : Nat) (c : Int32) (k3 : Slot), okS k3 → ¬ c < 0 → c.toInt + n = cE.toInt → (∀ j : Int32, c.toInt ≤ j.toInt → j.toInt < cE.toInt → ¬ 0 < getA (A 3) j) → M8 4 [.val (.ref 0), .val (.int tl), .val (.int c), k3, .unset, .unset, .unset, .unset, .unset] [] (put 0 [] s A []) Q := by
  intro n
  induction n with
  | zero =>
    intro c k3 o3 h0 e hz
    have hc : c = cE := Int32.toInt_inj.mp (by omega)
    subst hc
    exact hQ k3 o3
  | succ n ih =>
    intro c k3 o3 h0 e hz
    have hlt : c < 256 := by rw [lt_i, i_256]; omega
    have k := in_lt h l3 h0 (by rw [lt_i, i_16640]; omega)
    have b1 := hz c (by omega) (by omega)
    rw [m8_4]
    simp [hlt, k, b1, o3, m8_0, m8_1u, m8_2, m8_3u, m8_5, m8_8, m8_11, m8_12, m8_15, m8_16, m8_17u, m8_17i, m8_17r, m8_17g, m8_18, m8_19, m8_22, m8_23, m8_25, m8_28, m8_29, m8_31, m8_34, m8_35, m8_38, m8_39, m8_40, m8_41, m8_42, m8_45, m8_46, m8_47, m8_48, m8_51, m8_54, m8_57, m8_58i, m8_60, m8_61, m8_64, m8_65, m8_67, m8_70, m8_71, m8_74, m8_75, m8_76u, m8_76i, m8_76r, m8_76g, m8_77, m8_80, m8_81, m8_84, m8_85, m8_87, m8_90, m8_93, m8_94, m8_97, m8_98, m8_99u, m8_99i, m8_99r, m8_99g, m8_101, m8_103, m8_106, m8_108, m8_110, m8_113, m8_114i, m8_116, m8_117, m8_120, m8_121, m8_122, m8_123, m8_124, m8_127, m8_129, m8_130, m8_131, m8_132, m8_133u, m8_133i, m8_133r, m8_133g, m8_137, m8_140, m8_143, m8_144, m8_147, m8_148, m8_150, m8_151u, m8_151i, m8_151r, m8_151g, m8_153, m8_154, m8_157, m8_159, m8_162, m8_163, m8_165, m8_166, m8_167u, m8_167i, m8_167r, m8_167g, m8_169, m8_170, m8_173, m8_175, m8_176u, m8_176i, m8_176r, m8_176g, m8_178, m8_180, m8_183, m8_185, m8_187, m8_190, m8_191, m8_194, m8_196, m8_198, m8_199, m8_200, m8_202, m8_205, m8_206, m8_209, m8_210, m8_212, m8_213, m8_216, m8_219, m8_220, m8_223, m8_225, m8_227, m8_228, m8_231, m8_234, m8_237, nb0, nb1, ou_a, Option.toList_some, Option.toList_none, List.nil_append, List.cons_append]
    have ec := add1_i (a := c) (by omega)
    exact ih _ _ (okS_i _) (succ_nn h0 (by omega)) (by omega) (fun j p q => hz j (by omega) q)
theorem ix {u c : Int32} (u0 : 0 ≤ u.toInt) (u1 : u.toInt < 65) (c0 : 0 ≤ c.toInt) (c1 : c.toInt < 256) : (u * 256 + c).toInt = u.toInt * 256 + c.toInt := by
  have e1 : (u * 256).toInt = u.toInt * 256 := by
    have := mul_i (a := u) (b := 256) (by rw [i_256]; omega) (by rw [i_256]; omega)
    rw [this, i_256]
  have := add_i (a := u * 256) (b := c) (by rw [e1]; omega) (by rw [e1]; omega)
  rw [this, e1]
theorem gA (D : List Int32) {j : Int32} : getA D j = D.getD j.toInt.toNat 0 := by
  rw [← toNat_eq]; rfl
theorem gS {D : List Int32} {j v : Int32} (h : j.toInt.toNat < D.length) (k : Nat) : (setA D j v).getD k 0 = if k = j.toInt.toNat then v else D.getD k 0 := by
  have h' : j.toNatClampNeg < D.length := h
  show (D.set j.toNatClampNeg v).getD k 0 = if k = j.toNatClampNeg then v else D.getD k 0
  simp only [List.getD_eq_getElem?_getD, List.getElem?_set]
  by_cases e : j.toNatClampNeg = k
  · subst e; simp [h']
  · simp [e, Ne.symm e]
def SPR (u f : Int32) (i j : Int) (D D' : List Int32) : Prop := ∀ k : Nat, k < 16640 → D'.getD k 0 = if u.toInt * 256 + i ≤ k ∧ (k : Int) < u.toInt * 256 + j then D.getD (k - u.toInt.toNat * 256 + f.toInt.toNat * 256) 0 else D.getD k 0
set_option maxRecDepth 1000000 in
set_option maxHeartbeats 20000000 in
theorem row (h : LN A) {tl hd u f cE : Int32} (u0 : 0 ≤ u.toInt) (u1 : u.toInt < 65) (f0 : 0 ≤ f.toInt) (f1 : f.toInt < 65) (uf : u.toInt ≠ f.toInt) (hE : cE.toInt ≤ 256)
    : ∀ (n : Nat) (c : Int32) (D : List Int32) (k6 k7 k8 : Slot), D.length = 16640 → okS k6 → okS k7 → okS k8 → ¬ c < 0 → c.toInt + n = cE.toInt → (∀ j : Int32, c.toInt ≤ j.toInt → j.toInt < cE.toInt → ¬ 0 < getA D (u * 256 + j)) →
    (hQ : ∀ D' (k6 k7 k8 : Slot), D'.length = 16640 → SPR u f c.toInt cE.toInt D D' → okS k6 → okS k7 → okS k8 → M8 135 [.val (.ref 0), .val (.int tl), .val (.int hd), .val (.int u), .val (.int f), .val (.int cE), k6, k7, k8] [] (put 0 [] s (ou A 3 D') []) Q) →
    M8 135 [.val (.ref 0), .val (.int tl), .val (.int hd), .val (.int u), .val (.int f), .val (.int c), k6, k7, k8] [] (put 0 [] s (ou A 3 D) []) Q := by
  intro n
  induction n with
  | zero =>
    intro c D k6 k7 k8 hD o6 o7 o8 h0 e hz hQ
    have hc : c = cE := Int32.toInt_inj.mp (by omega)
    subst hc
    refine hQ D k6 k7 k8 hD (fun k _ => ?_) o6 o7 o8
    rw [if_neg (by omega)]
  | succ n ih =>
    intro c D k6 k7 k8 hD o6 o7 o8 h0 e hz hQ
    have c0 := nn_i.mp h0
    have hlt : c < 256 := by rw [lt_i, i_256]; omega
    have eu := ix u0 u1 c0 (by omega)
    have ef := ix f0 f1 c0 (by omega)
    have ku : inB (u * 256 + c) D := by rw [inB_iff, hD, eu]; omega
    have kf : inB (f * 256 + c) D := by rw [inB_iff, hD, ef]; omega
    have b1 := hz c (by omega) (by omega)
    have ec := add1_i (a := c) (by omega)
    rw [m8_135]
    simp [hlt, ku, kf, b1, o6, o7, o8, ou_same, m8_0, m8_1u, m8_2, m8_3u, m8_5, m8_8, m8_11, m8_12, m8_15, m8_16, m8_17u, m8_17i, m8_17r, m8_17g, m8_18, m8_19, m8_22, m8_23, m8_25, m8_28, m8_29, m8_31, m8_34, m8_35, m8_38, m8_39, m8_40, m8_41, m8_42, m8_45, m8_46, m8_47, m8_48, m8_51, m8_54, m8_57, m8_58i, m8_60, m8_61, m8_64, m8_65, m8_67, m8_70, m8_71, m8_74, m8_75, m8_76u, m8_76i, m8_76r, m8_76g, m8_77, m8_80, m8_81, m8_84, m8_85, m8_87, m8_90, m8_93, m8_94, m8_97, m8_98, m8_99u, m8_99i, m8_99r, m8_99g, m8_101, m8_103, m8_106, m8_108, m8_110, m8_113, m8_114i, m8_116, m8_117, m8_120, m8_121, m8_122, m8_123, m8_124, m8_127, m8_129, m8_130, m8_131, m8_132, m8_133u, m8_133i, m8_133r, m8_133g, m8_137, m8_140, m8_143, m8_144, m8_147, m8_148, m8_150, m8_151u, m8_151i, m8_151r, m8_151g, m8_153, m8_154, m8_157, m8_159, m8_162, m8_163, m8_165, m8_166, m8_167u, m8_167i, m8_167r, m8_167g, m8_169, m8_170, m8_173, m8_175, m8_176u, m8_176i, m8_176r, m8_176g, m8_178, m8_180, m8_183, m8_185, m8_187, m8_190, m8_191, m8_194, m8_196, m8_198, m8_199, m8_200, m8_202, m8_205, m8_206, m8_209, m8_210, m8_212, m8_213, m8_216, m8_219, m8_220, m8_223, m8_225, m8_227, m8_228, m8_231, m8_234, m8_237, nb0, nb1, ou_a, Option.toList_some, Option.toList_none, List.nil_append, List.cons_append]
    have hi : (u * 256 + c).toInt.toNat < D.length := by rw [hD, eu]; omega
    refine ih _ _ _ _ _ (by rw [setA_len]; exact hD) (okS_i _) (okS_i _) (okS_i _) (succ_nn h0 (by omega)) (by omega) (fun j p q => ?_) (fun D' k6 k7 k8 hD' sp p6 p7 p8 => hQ D' k6 k7 k8 hD' (fun k hk => ?_) p6 p7 p8)
    · have ej := ix u0 u1 (c := j) (by omega) (by omega)
      have := hz j (by omega) q
      rw [gA, gS hi, if_neg (by rw [ej, eu]; omega), ← gA]
      exact this
    · rw [sp k hk, gS hi, gS hi]
      rw [ec, eu]
      by_cases g1 : u.toInt * 256 + (c.toInt + 1) ≤ (k : Int) ∧ (k : Int) < u.toInt * 256 + cE.toInt
      · rw [if_pos g1, if_neg (by omega), if_pos (by omega)]
      · rw [if_neg g1]
        by_cases g2 : k = (u.toInt * 256 + c.toInt).toNat
        · rw [if_pos g2, if_pos (by omega), gA, ef]
          congr 1
          omega
        · rw [if_neg g2, if_neg (by omega)]
set_option maxRecDepth 1000000 in
set_option maxHeartbeats 20000000 in
theorem st1 (h : LN A) (h4 : A 4 = List.replicate 65 0) {tl c v : Int32} {k3 : Slot} (o3 : okS k3) (c0 : 0 ≤ c.toInt) (c1 : c.toInt < 256) (hv : getA (A 3) c = v) (v0 : 0 < v) (v1 : v < 65) (t0 : ¬ tl < 0) (t1 : tl < 65) (hQ : M8 4 [.val (.ref 0), .val (.int (tl + 1)), .val (.int (c + 1)), .val (.int v), .unset, .unset, .unset, .unset, .unset] [] (put 0 [] s (ou A 6 (setA (A 6) tl v)) []) Q) : M8 4 [.val (.ref 0), .val (.int tl), .val (.int c), k3, .unset, .unset, .unset, .unset, .unset] [] (put 0 [] s A []) Q := by
  have hlt : c < 256 := by rw [lt_i, i_256]; omega
  have k := in_lt h l3 (j := c) (by rw [nn_i]; omega) (by rw [lt_i, i_16640]; omega)
  have v2 : ¬ v < 0 := by rw [nn_i]; rw [lt_i, i_0] at v0; omega
  have kv := in_lt h l4 v2 v1
  have kt := in_lt h l6 t0 t1
  rw [m8_4]
  simp [hlt, k, hv, v0, v1, t1, kv, kt, o3, m8_0, m8_1u, m8_2, m8_3u, m8_5, m8_8, m8_11, m8_12, m8_15, m8_16, m8_17u, m8_17i, m8_17r, m8_17g, m8_18, m8_19, m8_22, m8_23, m8_25, m8_28, m8_29, m8_31, m8_34, m8_35, m8_38, m8_39, m8_40, m8_41, m8_42, m8_45, m8_46, m8_47, m8_48, m8_51, m8_54, m8_57, m8_58i, m8_60, m8_61, m8_64, m8_65, m8_67, m8_70, m8_71, m8_74, m8_75, m8_76u, m8_76i, m8_76r, m8_76g, m8_77, m8_80, m8_81, m8_84, m8_85, m8_87, m8_90, m8_93, m8_94, m8_97, m8_98, m8_99u, m8_99i, m8_99r, m8_99g, m8_101, m8_103, m8_106, m8_108, m8_110, m8_113, m8_114i, m8_116, m8_117, m8_120, m8_121, m8_122, m8_123, m8_124, m8_127, m8_129, m8_130, m8_131, m8_132, m8_133u, m8_133i, m8_133r, m8_133g, m8_137, m8_140, m8_143, m8_144, m8_147, m8_148, m8_150, m8_151u, m8_151i, m8_151r, m8_151g, m8_153, m8_154, m8_157, m8_159, m8_162, m8_163, m8_165, m8_166, m8_167u, m8_167i, m8_167r, m8_167g, m8_169, m8_170, m8_173, m8_175, m8_176u, m8_176i, m8_176r, m8_176g, m8_178, m8_180, m8_183, m8_185, m8_187, m8_190, m8_191, m8_194, m8_196, m8_198, m8_199, m8_200, m8_202, m8_205, m8_206, m8_209, m8_210, m8_212, m8_213, m8_216, m8_219, m8_220, m8_223, m8_225, m8_227, m8_228, m8_231, m8_234, m8_237, nb0, nb1, ou_a, Option.toList_some, Option.toList_none, List.nil_append, List.cons_append]
  rw [ou_id (k := 4) (by rw [h4, set0])]
  exact hQ
set_option maxRecDepth 1000000 in
set_option maxHeartbeats 20000000 in
theorem nd0 (h : LN A) {tl hd u f : Int32} {k3 k4 k5 k6 k7 k8 : Slot} (o3 : okS k3) (o4 : okS k4) (o5 : okS k5) (o6 : okS k6) (o7 : okS k7) (o8 : okS k8) (h0 : ¬ hd < 0) (h1 : hd < tl) (h2 : hd < 65) (hu : getA (A 6) hd = u) (u0 : 0 < u) (u1 : u < 65) (hf : getA (A 4) u = f) (f0 : ¬ f < 0) (f1 : f < 65)
    (hQ : ∀ k6 k7 k8 : Slot, okS k6 → okS k7 → okS k8 → M8 135 [.val (.ref 0), .val (.int tl), .val (.int (hd + 1)), .val (.int u), .val (.int f), .val (.int 0), k6, k7, k8] [] (put 0 [] s (ou A 5 (setA (A 5) u (getA (A 5) u ||| getA (A 5) f))) []) Q) : M8 59 [.val (.ref 0), .val (.int tl), .val (.int hd), k3, k4, k5, k6, k7, k8] [] (put 0 [] s A []) Q := by
  have v2 : ¬ u < 0 := by rw [nn_i]; rw [lt_i, i_0] at u0; omega
  have q6 := in_lt h l6 h0 h2
  have q4 := in_lt h l4 v2 u1
  have q5 := in_lt h l5 v2 u1
  have q5f := in_lt h l5 f0 f1
  rw [m8_59]
  simp [h1, h2, q6, q4, q5, q5f, hu, u0, u1, hf, f0, f1, o3, o4, o5, m8_0, m8_1u, m8_2, m8_3u, m8_5, m8_8, m8_11, m8_12, m8_15, m8_16, m8_17u, m8_17i, m8_17r, m8_17g, m8_18, m8_19, m8_22, m8_23, m8_25, m8_28, m8_29, m8_31, m8_34, m8_35, m8_38, m8_39, m8_40, m8_41, m8_42, m8_45, m8_46, m8_47, m8_48, m8_51, m8_54, m8_57, m8_58i, m8_60, m8_61, m8_64, m8_65, m8_67, m8_70, m8_71, m8_74, m8_75, m8_76u, m8_76i, m8_76r, m8_76g, m8_77, m8_80, m8_81, m8_84, m8_85, m8_87, m8_90, m8_93, m8_94, m8_97, m8_98, m8_99u, m8_99i, m8_99r, m8_99g, m8_101, m8_103, m8_106, m8_108, m8_110, m8_113, m8_114i, m8_116, m8_117, m8_120, m8_121, m8_122, m8_123, m8_124, m8_127, m8_129, m8_130, m8_131, m8_132, m8_133u, m8_133i, m8_133r, m8_133g, m8_137, m8_140, m8_143, m8_144, m8_147, m8_148, m8_150, m8_151u, m8_151i, m8_151r, m8_151g, m8_153, m8_154, m8_157, m8_159, m8_162, m8_163, m8_165, m8_166, m8_167u, m8_167i, m8_167r, m8_167g, m8_169, m8_170, m8_173, m8_175, m8_176u, m8_176i, m8_176r, m8_176g, m8_178, m8_180, m8_183, m8_185, m8_187, m8_190, m8_191, m8_194, m8_196, m8_198, m8_199, m8_200, m8_202, m8_205, m8_206, m8_209, m8_210, m8_212, m8_213, m8_216, m8_219, m8_220, m8_223, m8_225, m8_227, m8_228, m8_231, m8_234, m8_237, nb0, nb1, ou_a, Option.toList_some, Option.toList_none, List.nil_append, List.cons_append]
  exact hQ _ _ _ o6 o7 o8
set_option maxRecDepth 1000000 in
set_option maxHeartbeats 20000000 in
theorem ndN (h : LN A) {tl hd u f : Int32} {k3 k4 k5 k6 k7 k8 : Slot} (o3 : okS k3) (o4 : okS k4) (o5 : okS k5) (o6 : okS k6) (o7 : okS k7) (o8 : okS k8) (h0 : ¬ hd < 0) (h1 : hd < tl) (h2 : hd < 65) (hu : getA (A 6) hd = u) (u0 : 0 < u) (u1 : u < 65) (hf : getA (A 4) u = f) (f0 : ¬ f < 0) (f1 : f < 65) (uf : u.toInt ≠ f.toInt)
    (hz : ∀ j : Int32, 0 ≤ j.toInt → j.toInt < 256 → ¬ 0 < getA (A 3) (u * 256 + j))
    (hQ : ∀ (D : List Int32) (k4 k5 k6 k7 k8 : Slot), D.length = 16640 → SPR u f 0 256 (A 3) D → okS k4 → okS k5 → okS k6 → okS k7 → okS k8 → M8 59 [.val (.ref 0), .val (.int tl), .val (.int (hd + 1)), .val (.int u), k4, k5, k6, k7, k8] [] (put 0 [] s (ou (ou A 5 (setA (A 5) u (getA (A 5) u ||| getA (A 5) f))) 3 D) []) Q) : M8 59 [.val (.ref 0), .val (.int tl), .val (.int hd), k3, k4, k5, k6, k7, k8] [] (put 0 [] s A []) Q := by
  have w0 := u0
  rw [lt_i, i_0] at w0
  have w1 := u1
  rw [lt_i, i_65] at w1
  have w2 := f1
  rw [lt_i, i_65] at w2
  have w3 := nn_i.mp f0
  have hL : LN (ou A 5 (setA (A 5) u (getA (A 5) u ||| getA (A 5) f))) := LN_ou h (by simp only [setA_len]; exact h _)
  have l16 : (A 3).length = 16640 := (h 3).trans A0l_3
  refine nd0 h o3 o4 o5 o6 o7 o8 h0 h1 h2 hu u0 u1 hf f0 f1 (fun k6 k7 k8 p6 p7 p8 => ?_)
  have e := ou_id (A := ou A 5 (setA (A 5) u (getA (A 5) u ||| getA (A 5) f))) (k := 3) (l := A 3) rfl
  rw [← e]
  refine row hL (cE := 256) (by omega) (by omega) w3 (by omega) uf (by decide) 256 0 (A 3) k6 k7 k8 l16 p6 p7 p8 (by decide) rfl (fun j p q => hz j (by rw [i_0] at p; exact p) (by rw [i_256] at q; exact q)) (fun D' a6 a7 a8 hD' sp r6 r7 r8 => ?_)
  rw [m8_135]
  simp [m8_0, m8_1u, m8_2, m8_3u, m8_5, m8_8, m8_11, m8_12, m8_15, m8_16, m8_17u, m8_17i, m8_17r, m8_17g, m8_18, m8_19, m8_22, m8_23, m8_25, m8_28, m8_29, m8_31, m8_34, m8_35, m8_38, m8_39, m8_40, m8_41, m8_42, m8_45, m8_46, m8_47, m8_48, m8_51, m8_54, m8_57, m8_58i, m8_60, m8_61, m8_64, m8_65, m8_67, m8_70, m8_71, m8_74, m8_75, m8_76u, m8_76i, m8_76r, m8_76g, m8_77, m8_80, m8_81, m8_84, m8_85, m8_87, m8_90, m8_93, m8_94, m8_97, m8_98, m8_99u, m8_99i, m8_99r, m8_99g, m8_101, m8_103, m8_106, m8_108, m8_110, m8_113, m8_114i, m8_116, m8_117, m8_120, m8_121, m8_122, m8_123, m8_124, m8_127, m8_129, m8_130, m8_131, m8_132, m8_133u, m8_133i, m8_133r, m8_133g, m8_137, m8_140, m8_143, m8_144, m8_147, m8_148, m8_150, m8_151u, m8_151i, m8_151r, m8_151g, m8_153, m8_154, m8_157, m8_159, m8_162, m8_163, m8_165, m8_166, m8_167u, m8_167i, m8_167r, m8_167g, m8_169, m8_170, m8_173, m8_175, m8_176u, m8_176i, m8_176r, m8_176g, m8_178, m8_180, m8_183, m8_185, m8_187, m8_190, m8_191, m8_194, m8_196, m8_198, m8_199, m8_200, m8_202, m8_205, m8_206, m8_209, m8_210, m8_212, m8_213, m8_216, m8_219, m8_220, m8_223, m8_225, m8_227, m8_228, m8_231, m8_234, m8_237, nb0, nb1, ou_a, Option.toList_some, Option.toList_none, List.nil_append, List.cons_append]
  exact hQ D' _ _ _ _ _ hD' sp (okS_i _) (okS_i _) r6 r7 r8
set_option maxRecDepth 1000000 in
set_option maxHeartbeats 20000000 in
theorem nd1 (h : LN A) {tl hd y w : Int32} {k3 k4 k5 k6 k7 k8 : Slot} (o3 : okS k3) (o4 : okS k4) (o5 : okS k5) (o6 : okS k6) (o7 : okS k7) (o8 : okS k8) (h0 : ¬ hd < 0) (h1 : hd < tl) (h2 : hd < 65) (hu : getA (A 6) hd = 1) (hf : getA (A 4) 1 = 0) (y0 : 0 ≤ y.toInt) (y1 : y.toInt < 256) (t0 : ¬ tl < 0) (t1 : tl < 65) (hw : getA (A 3) y = w) (hv : getA (A 3) (256 + y) = 2)
    (hz : ∀ j : Int32, 0 ≤ j.toInt → j.toInt < 256 → j.toInt ≠ y.toInt → ¬ 0 < getA (A 3) (1 * 256 + j))
    (hQ : ∀ (D1 D : List Int32) (k4 k5 k6 k7 k8 : Slot), D1.length = 16640 → D.length = 16640 → SPR 1 0 0 y.toInt (A 3) D1 → SPR 1 0 (y.toInt + 1) 256 D1 D → okS k4 → okS k5 → okS k6 → okS k7 → okS k8 → M8 59 [.val (.ref 0), .val (.int (tl + 1)), .val (.int (hd + 1)), .val (.int 1), k4, k5, k6, k7, k8] [] (put 0 [] s (ou (ou (ou (ou (ou A 5 (setA (A 5) 1 (getA (A 5) 1 ||| getA (A 5) 0))) 3 D1) 4 (setA (A 4) 2 w)) 6 (setA (A 6) tl 2)) 3 D) []) Q) : M8 59 [.val (.ref 0), .val (.int tl), .val (.int hd), k3, k4, k5, k6, k7, k8] [] (put 0 [] s A []) Q := by
  have hL : LN (ou A 5 (setA (A 5) 1 (getA (A 5) 1 ||| getA (A 5) 0))) := LN_ou h (by simp only [setA_len]; exact h _)
  have l16 : (A 3).length = 16640 := (h 3).trans A0l_3
  have e256 : (256 + y).toInt = 256 + y.toInt := by
    have := add_i (a := 256) (b := y) (by rw [i_256]; omega) (by rw [i_256]; omega)
    rw [this, i_256]
  refine nd0 h o3 o4 o5 o6 o7 o8 h0 h1 h2 hu (by decide) (by decide) hf (by decide) (by decide) (fun k6 k7 k8 p6 p7 p8 => ?_)
  have e := ou_id (A := ou A 5 (setA (A 5) 1 (getA (A 5) 1 ||| getA (A 5) 0))) (k := 3) (l := A 3) rfl
  rw [← e]
  have en := Int.toNat_of_nonneg y0
  refine row hL (cE := y) (by decide) (by decide) (by decide) (by decide) (by decide) (by omega) y.toInt.toNat 0 (A 3) k6 k7 k8 l16 p6 p7 p8 (by decide) (by rw [i_0]; omega) (fun j p q => hz j (by rw [i_0] at p; exact p) (by omega) (by omega)) (fun D1 a6 a7 a8 hD1 sp1 r6 r7 r8 => ?_)
  have hlt : y < 256 := by rw [lt_i, i_256]; omega
  have g1 : getA D1 (256 + y) = 2 := by
    rw [gA, sp1 _ (by rw [e256]; omega), if_neg (by rw [e256]; show ¬ (1 * 256 + (0 : Int32).toInt ≤ _ ∧ _ < 1 * 256 + y.toInt); omega), ← gA]
    exact hv
  have g2 : getA D1 y = w := by
    rw [gA, sp1 _ (by omega), if_neg (by show ¬ (1 * 256 + (0 : Int32).toInt ≤ _ ∧ _ < 1 * 256 + y.toInt); rw [i_0]; omega), ← gA]
    exact hw
  have ku : inB (256 + y) D1 := by rw [inB_iff, hD1, e256]; omega
  have kf : inB y D1 := by rw [inB_iff, hD1]; omega
  have kv : inB 2 (A 4) := in_lt h l4 (by decide) (by decide)
  have kt := in_lt h l6 t0 t1
  have ec := add1_i (a := y) (by omega)
  rw [m8_135]
  simp [hlt, g1, g2, ku, kf, kv, kt, t1, r6, r7, r8, m8_0, m8_1u, m8_2, m8_3u, m8_5, m8_8, m8_11, m8_12, m8_15, m8_16, m8_17u, m8_17i, m8_17r, m8_17g, m8_18, m8_19, m8_22, m8_23, m8_25, m8_28, m8_29, m8_31, m8_34, m8_35, m8_38, m8_39, m8_40, m8_41, m8_42, m8_45, m8_46, m8_47, m8_48, m8_51, m8_54, m8_57, m8_58i, m8_60, m8_61, m8_64, m8_65, m8_67, m8_70, m8_71, m8_74, m8_75, m8_76u, m8_76i, m8_76r, m8_76g, m8_77, m8_80, m8_81, m8_84, m8_85, m8_87, m8_90, m8_93, m8_94, m8_97, m8_98, m8_99u, m8_99i, m8_99r, m8_99g, m8_101, m8_103, m8_106, m8_108, m8_110, m8_113, m8_114i, m8_116, m8_117, m8_120, m8_121, m8_122, m8_123, m8_124, m8_127, m8_129, m8_130, m8_131, m8_132, m8_133u, m8_133i, m8_133r, m8_133g, m8_137, m8_140, m8_143, m8_144, m8_147, m8_148, m8_150, m8_151u, m8_151i, m8_151r, m8_151g, m8_153, m8_154, m8_157, m8_159, m8_162, m8_163, m8_165, m8_166, m8_167u, m8_167i, m8_167r, m8_167g, m8_169, m8_170, m8_173, m8_175, m8_176u, m8_176i, m8_176r, m8_176g, m8_178, m8_180, m8_183, m8_185, m8_187, m8_190, m8_191, m8_194, m8_196, m8_198, m8_199, m8_200, m8_202, m8_205, m8_206, m8_209, m8_210, m8_212, m8_213, m8_216, m8_219, m8_220, m8_223, m8_225, m8_227, m8_228, m8_231, m8_234, m8_237, nb0, nb1, ou_a, Option.toList_some, Option.toList_none, List.nil_append, List.cons_append]
  have hL2 : LN (ou (ou (ou (ou A 5 (setA (A 5) 1 (getA (A 5) 1 ||| getA (A 5) 0))) 3 D1) 4 (setA (A 4) 2 w)) 6 (setA (A 6) tl 2)) := LN_ou (LN_ou (LN_ou hL (hD1.trans A0l_3.symm)) (by simp only [setA_len]; exact h _)) (by simp only [setA_len]; exact h _)
  have e2 := ou_id (A := ou (ou (ou (ou A 5 (setA (A 5) 1 (getA (A 5) 1 ||| getA (A 5) 0))) 3 D1) 4 (setA (A 4) 2 w)) 6 (setA (A 6) tl 2)) (k := 3) (l := D1) rfl
  rw [← e2]
  refine row hL2 (u := 1) (f := 0) (cE := 256) (by decide) (by decide) (by decide) (by decide) (by decide) (by decide) (255 - y.toInt).toNat (y + 1) D1 _ _ _ hD1 (okS_i _) (okS_i _) (okS_i _) (by rw [nn_i]; omega) (by rw [ec, i_256]; omega) (fun j p q => ?_) (fun D a6 a7 a8 hD sp2 r6 r7 r8 => ?_)
  · rw [ec] at p
    rw [i_256] at q
    have ej := ix (u := 1) (c := j) (by decide) (by decide) (by omega) (by omega)
    have := hz j (by omega) (by omega) (by omega)
    have z1 := i_1
    have z0 := i_0
    rw [gA, sp1 _ (by rw [ej]; omega), if_neg (by rw [ej]; omega), ← gA]
    exact this
  · rw [m8_135]
    simp [m8_0, m8_1u, m8_2, m8_3u, m8_5, m8_8, m8_11, m8_12, m8_15, m8_16, m8_17u, m8_17i, m8_17r, m8_17g, m8_18, m8_19, m8_22, m8_23, m8_25, m8_28, m8_29, m8_31, m8_34, m8_35, m8_38, m8_39, m8_40, m8_41, m8_42, m8_45, m8_46, m8_47, m8_48, m8_51, m8_54, m8_57, m8_58i, m8_60, m8_61, m8_64, m8_65, m8_67, m8_70, m8_71, m8_74, m8_75, m8_76u, m8_76i, m8_76r, m8_76g, m8_77, m8_80, m8_81, m8_84, m8_85, m8_87, m8_90, m8_93, m8_94, m8_97, m8_98, m8_99u, m8_99i, m8_99r, m8_99g, m8_101, m8_103, m8_106, m8_108, m8_110, m8_113, m8_114i, m8_116, m8_117, m8_120, m8_121, m8_122, m8_123, m8_124, m8_127, m8_129, m8_130, m8_131, m8_132, m8_133u, m8_133i, m8_133r, m8_133g, m8_137, m8_140, m8_143, m8_144, m8_147, m8_148, m8_150, m8_151u, m8_151i, m8_151r, m8_151g, m8_153, m8_154, m8_157, m8_159, m8_162, m8_163, m8_165, m8_166, m8_167u, m8_167i, m8_167r, m8_167g, m8_169, m8_170, m8_173, m8_175, m8_176u, m8_176i, m8_176r, m8_176g, m8_178, m8_180, m8_183, m8_185, m8_187, m8_190, m8_191, m8_194, m8_196, m8_198, m8_199, m8_200, m8_202, m8_205, m8_206, m8_209, m8_210, m8_212, m8_213, m8_216, m8_219, m8_220, m8_223, m8_225, m8_227, m8_228, m8_231, m8_234, m8_237, nb0, nb1, ou_a, Option.toList_some, Option.toList_none, List.nil_append, List.cons_append]
    rw [ec] at sp2
    exact hQ D1 D _ _ _ _ _ hD1 hD sp1 sp2 (okS_i _) (okS_i _) r6 r7 r8
theorem sh0 : (1 : Int32) <<< ((0 : Int32) &&& 31) = 1 := by decide
theorem sh1 : (1 : Int32) <<< ((1 : Int32) &&& 31) = 2 := by decide
theorem or01 : (0 : Int32) ||| 1 = 1 := by decide
theorem or02 : (0 : Int32) ||| 2 = 2 := by decide
theorem or12 : (1 : Int32) ||| 2 = 3 := by decide
def RP : List Int32 := List.replicate 16640 0
def ZP : List Int32 := List.replicate 65 0
theorem gZ (j : Int32) : getA ZP j = 0 := getA_rep _ _
theorem gR (j : Int32) : getA RP j = 0 := getA_rep _ _
theorem RPl : RP.length = 16640 := List.length_replicate
theorem ZPl : ZP.length = 65 := List.length_replicate
set_option maxRecDepth 1000000 in
set_option maxHeartbeats 20000000 in
theorem trN {x y : Int32} (x0 : 0 ≤ x.toInt) (x1 : x.toInt < 256) (y0 : 0 ≤ y.toInt) (y1 : y.toInt < 256) (xy : x.toInt ≠ y.toInt) (h : LN A) (a0 : A 0 = setA (setA (setA (A0 0) 0 x) 1 y) 2 y) (a1 : A 1 = setA (setA (A0 1) 0 0) 1 2) (a2 : A 2 = setA (setA (A0 2) 0 2) 1 1) (a3 : A 3 = RP) (a4 : A 4 = ZP) (a5 : A 5 = ZP) (a6 : A 6 = ZP) (h2 : s 2 = 2) (hQ : Q none (put 0 [] (ou s 5 4) (ou (ou A 3 (setA (setA (setA RP x 1) (256 + y) 2) y 3)) 5 (setA (setA ZP 2 1) 3 2)) [])) : M5 0 [.val (.ref 0), .unset] [] (put 0 [] s A []) Q := by
  have e256 : (256 + y).toInt = 256 + y.toInt := by
    have := add_i (a := 256) (b := y) (by rw [i_256]; omega) (by rw [i_256]; omega)
    rw [this, i_256]
  have p1 : ¬ x < 0 := by rw [nn_i]; omega
  have p2 : x < 16640 := by rw [lt_i, i_16640]; omega
  have p3 : ¬ y < 0 := by rw [nn_i]; omega
  have p4 : y < 16640 := by rw [lt_i, i_16640]; omega
  have p5 : ¬ 256 + y < 0 := by rw [nn_i]; omega
  have p6 : 256 + y < 16640 := by rw [lt_i, i_16640]; omega
  have n1 : x.toNatClampNeg < 16640 := by rw [toNat_eq]; omega
  have n2 : y.toNatClampNeg < 16640 := by rw [toNat_eq]; omega
  have n3 : (256 + y).toNatClampNeg < 16640 := by rw [toNat_eq, e256]; omega
  have m1 : ¬ (256 + y).toNatClampNeg = x.toNatClampNeg := by rw [toNat_eq, toNat_eq, e256]; omega
  have m2 : ¬ y.toNatClampNeg = (256 + y).toNatClampNeg := by rw [toNat_eq, toNat_eq, e256]; omega
  have q1 : inB x RP := by rw [inB_iff, RPl]; omega
  have q2 : inB y RP := by rw [inB_iff, RPl]; omega
  have q3 : inB (256 + y) RP := by rw [inB_iff, RPl, e256]; omega
  have z00 : inB 0 (A0 0) := by simp [inB_iff, A0l_0]
  have z01 : inB 1 (A0 0) := by simp [inB_iff, A0l_0]
  have z02 : inB 2 (A0 0) := by simp [inB_iff, A0l_0]
  have z10 : inB 0 (A0 1) := by simp [inB_iff, A0l_1]
  have z11 : inB 1 (A0 1) := by simp [inB_iff, A0l_1]
  have z20 : inB 0 (A0 2) := by simp [inB_iff, A0l_2]
  have z21 : inB 1 (A0 2) := by simp [inB_iff, A0l_2]
  have w1 : inB 1 ZP := by simp [inB_iff, ZPl]
  have w2 : inB 2 ZP := by simp [inB_iff, ZPl]
  have w3 : inB 3 ZP := by simp [inB_iff, ZPl]
  have m3 : ¬ y.toNatClampNeg = x.toNatClampNeg := by rw [toNat_eq, toNat_eq]; omega
  simp [m5_0, m5_1, nb0, nb1, ou_a, Option.toList_some, Option.toList_none, List.nil_append, List.cons_append]
  refine c6 h a3 a4 a5 a6 ?_
  simp [m3, p1, p2, p3, p4, p5, p6, n1, n2, n3, m1, m2, q1, q2, q3, z00, z01, z02, z10, z11, z20, z21, w1, w2, w3, inB_set, getA_set2, setA_len, A0g_0, A0g_1, A0g_2, A0l_0, A0l_1, A0l_2, gZ, gR, RPl, ZPl, ou_same, ou_comm, a0, a1, a2, a3, a5, h2, sh0, sh1, or01, or02, m5_0, m5_1, m5_4, m5_5, m5_6, m5_9, m5_10u, m5_11, m5_12, m5_13, m5_16, m5_19, m5_20, m5_22, m5_25, m5_26, m5_27, m5_30, m5_33, m5_36, m7_0, m7_1, m7_4, m7_5, m7_7, m7_10, m7_11, m7_12, m7_15, m7_16, m7_17u, m7_18, m7_19, m7_22, m7_23, m7_24u, m7_25, m7_26u, m7_28, m7_29u, m7_31, m7_33, m7_34, m7_37, m7_39, m7_41, m7_44, m7_45, m7_47, m7_48u, m7_48i, m7_48r, m7_48g, m7_50, m7_52, m7_55, m7_57, m7_59, m7_62, m7_63, m7_65, m7_68, m7_69, m7_70, m7_73, m7_75, m7_76, m7_77u, m7_77i, m7_77r, m7_77g, m7_79, m7_81, m7_84, m7_86, m7_89, m7_92, m7_93, m7_94, m7_97, m7_99, m7_100, m7_103, m7_104, m7_107, m7_109, m7_112, m7_113, m7_114, m7_117, m7_119, m7_120, m7_123, m7_124, m7_125, m7_126, m7_129, m7_130, m7_131, m7_134, m7_135, m7_138, m7_140, m7_141i, m7_143, m7_146, m7_149, m7_151, m7_154, m7_156, m7_158, m7_161, m7_162, m7_165, m7_167, m7_168, m7_169, m7_170, m7_171, m7_172, m7_173, m7_174, nb0, nb1, ou_a, Option.toList_some, Option.toList_none, List.nil_append, List.cons_append]
  exact hQ
theorem tn0 : (0 : Int32).toInt.toNat = 0 := rfl
theorem tn1 : (1 : Int32).toInt.toNat = 1 := rfl
theorem tn2 : (2 : Int32).toInt.toNat = 2 := rfl
theorem tn3 : (3 : Int32).toInt.toNat = 3 := rfl
theorem gRP (k : Nat) : RP.getD k 0 = 0 := by
  unfold RP
  simp only [List.getD_eq_getElem?_getD, List.getElem?_replicate]
  split <;> rfl
theorem D0N {x y : Int32} (x0 : 0 ≤ x.toInt) (x1 : x.toInt < 256) (y0 : 0 ≤ y.toInt) (y1 : y.toInt < 256) (k : Nat) : (setA (setA (setA RP x 1) (256 + y) 2) y 3).getD k 0 = if k = y.toInt.toNat then 3 else if k = 256 + y.toInt.toNat then 2 else if k = x.toInt.toNat then 1 else 0 := by
  have e256 : (256 + y).toInt = 256 + y.toInt := by
    have := add_i (a := 256) (b := y) (by rw [i_256]; omega) (by rw [i_256]; omega)
    rw [this, i_256]
  have e2 : (256 + y).toInt.toNat = 256 + y.toInt.toNat := by rw [e256]; omega
  rw [gS (by rw [setA_len, setA_len, RPl]; omega), gS (by rw [setA_len, RPl, e2]; omega), gS (by rw [RPl]; omega), gRP, e2]
theorem D0E {x : Int32} (x0 : 0 ≤ x.toInt) (x1 : x.toInt < 256) (k : Nat) : (setA (setA RP x 1) (256 + x) 2).getD k 0 = if k = 256 + x.toInt.toNat then 2 else if k = x.toInt.toNat then 1 else 0 := by
  have e256 : (256 + x).toInt = 256 + x.toInt := by
    have := add_i (a := 256) (b := x) (by rw [i_256]; omega) (by rw [i_256]; omega)
    rw [this, i_256]
  have e2 : (256 + x).toInt.toNat = 256 + x.toInt.toNat := by rw [e256]; omega
  rw [gS (by rw [setA_len, RPl, e2]; omega), gS (by rw [RPl]; omega), gRP, e2]
def TBN (X Y : Nat) (D : List Int32) : Prop := ∀ K : Nat, K < 256 → D.getD K 0 = (if K = Y then 3 else if K = X then 1 else 0) ∧ D.getD (256 + K) 0 = (if K = Y then 2 else if K = X then 1 else 0) ∧ D.getD (512 + K) 0 = (if K = Y then 3 else if K = X then 1 else 0) ∧ D.getD (768 + K) 0 = (if K = Y then 3 else if K = X then 1 else 0)
def TBE (X : Nat) (D : List Int32) : Prop := ∀ K : Nat, K < 256 → D.getD K 0 = (if K = X then 1 else 0) ∧ D.getD (256 + K) 0 = (if K = X then 2 else 0) ∧ D.getD (512 + K) 0 = (if K = X then 2 else 0)
theorem SP_in {u f : Int32} {i j : Int} {D D' : List Int32} (h : SPR u f i j D D') (k : Nat) (hk : k < 16640) (h1 : u.toInt * 256 + i ≤ k) (h2 : (k : Int) < u.toInt * 256 + j) : D'.getD k 0 = D.getD (k - u.toInt.toNat * 256 + f.toInt.toNat * 256) 0 := by
  rw [h k hk, if_pos ⟨h1, h2⟩]
theorem SP_out {u f : Int32} {i j : Int} {D D' : List Int32} (h : SPR u f i j D D') (k : Nat) (hk : k < 16640) (h1 : ¬ (u.toInt * 256 + i ≤ k ∧ (k : Int) < u.toInt * 256 + j)) : D'.getD k 0 = D.getD k 0 := by
  rw [h k hk, if_neg h1]
theorem tabA {x y : Int32} (x0 : 0 ≤ x.toInt) (x1 : x.toInt < 256) (y0 : 0 ≤ y.toInt) (y1 : y.toInt < 256) (xy : x.toInt ≠ y.toInt) {D0 D1 D2 D3 D4 : List Int32} (d0 : ∀ k, D0.getD k 0 = if k = y.toInt.toNat then 3 else if k = 256 + y.toInt.toNat then 2 else if k = x.toInt.toNat then 1 else 0) (a1 : SPR 1 0 0 y.toInt D0 D1) (a2 : SPR 1 0 (y.toInt + 1) 256 D1 D2) (a3 : SPR 3 0 0 256 D2 D3) (a4 : SPR 2 3 0 256 D3 D4) : TBN x.toInt.toNat y.toInt.toNat D4 := by
  have z0 := i_0
  have z1 := i_1
  have z2 : (2 : Int32).toInt = 2 := rfl
  have z3 : (3 : Int32).toInt = 3 := rfl
  intro K hK
  have base : D0.getD K 0 = (if K = y.toInt.toNat then 3 else if K = x.toInt.toNat then 1 else 0) := by
    rw [d0 K]
    by_cases q : K = y.toInt.toNat
    · rw [if_pos q, if_pos q]
    · rw [if_neg q, if_neg q, if_neg (by omega)]
  have l2 : D2.getD K 0 = D0.getD K 0 := by rw [SP_out a2 K (by omega) (by omega), SP_out a1 K (by omega) (by omega)]
  have l1 : D1.getD K 0 = D0.getD K 0 := by rw [SP_out a1 K (by omega) (by omega)]
  have l3 : D3.getD K 0 = D0.getD K 0 := by rw [SP_out a3 K (by omega) (by omega), l2]
  have r3 : D3.getD (768 + K) 0 = D0.getD K 0 := by
    rw [SP_in a3 (768 + K) (by omega) (by omega) (by omega), show 768 + K - (3 : Int32).toInt.toNat * 256 + (0 : Int32).toInt.toNat * 256 = K by rw [tn3, tn0]; omega, l2]
  have s1 : D4.getD (256 + K) 0 = D2.getD (256 + K) 0 := by rw [SP_out a4 _ (by omega) (by omega), SP_out a3 _ (by omega) (by omega)]
  have src : D0.getD (256 + K) 0 = D0.getD (256 + K) 0 := rfl
  have lo : D0.getD K 0 = D0.getD K 0 := rfl
  have dd : D0.getD (256 + y.toInt.toNat) 0 = 2 := by rw [d0, if_neg (by omega), if_pos rfl]
  refine ⟨?_, ?_, ?_, ?_⟩
  · rw [SP_out a4 K (by omega) (by omega), l3, base]
  · rw [s1]
    by_cases q : K = y.toInt.toNat
    · rw [if_pos q, SP_out a2 _ (by omega) (by omega), SP_out a1 _ (by omega) (by omega), q]
      exact dd
    · rw [if_neg q]
      have bs := base
      rw [if_neg q] at bs
      by_cases g : y.toInt.toNat < K
      · rw [SP_in a2 (256 + K) (by omega) (by omega) (by omega), show 256 + K - (1 : Int32).toInt.toNat * 256 + (0 : Int32).toInt.toNat * 256 = K by rw [tn1, tn0]; omega, l1, bs]
      · rw [SP_out a2 _ (by omega) (by omega), SP_in a1 (256 + K) (by omega) (by omega) (by omega), show 256 + K - (1 : Int32).toInt.toNat * 256 + (0 : Int32).toInt.toNat * 256 = K by rw [tn1, tn0]; omega, bs]
  · rw [SP_in a4 (512 + K) (by omega) (by omega) (by omega), show 512 + K - (2 : Int32).toInt.toNat * 256 + (3 : Int32).toInt.toNat * 256 = 768 + K by rw [tn2, tn3]; omega, r3, base]
  · rw [SP_out a4 _ (by omega) (by omega), r3, base]
theorem tabB {x y : Int32} (x0 : 0 ≤ x.toInt) (x1 : x.toInt < 256) (y0 : 0 ≤ y.toInt) (y1 : y.toInt < 256) (xy : x.toInt ≠ y.toInt) {D0 D1 D2 D3 D4 : List Int32} (d0 : ∀ k, D0.getD k 0 = if k = y.toInt.toNat then 3 else if k = 256 + y.toInt.toNat then 2 else if k = x.toInt.toNat then 1 else 0) (a1 : SPR 1 0 0 y.toInt D3 D1) (a2 : SPR 1 0 (y.toInt + 1) 256 D1 D2) (a3 : SPR 3 0 0 256 D0 D3) (a4 : SPR 2 3 0 256 D2 D4) : TBN x.toInt.toNat y.toInt.toNat D4 := by
  have z0 := i_0
  have z1 := i_1
  have z2 : (2 : Int32).toInt = 2 := rfl
  have z3 : (3 : Int32).toInt = 3 := rfl
  intro K hK
  have base : D0.getD K 0 = (if K = y.toInt.toNat then 3 else if K = x.toInt.toNat then 1 else 0) := by
    rw [d0 K]
    by_cases q : K = y.toInt.toNat
    · rw [if_pos q, if_pos q]
    · rw [if_neg q, if_neg q, if_neg (by omega)]
  have l3 : D3.getD K 0 = D0.getD K 0 := by rw [SP_out a3 K (by omega) (by omega)]
  have l1 : D1.getD K 0 = D0.getD K 0 := by rw [SP_out a1 K (by omega) (by omega), l3]
  have l2 : D2.getD K 0 = D0.getD K 0 := by rw [SP_out a2 K (by omega) (by omega), l1]
  have r3 : D2.getD (768 + K) 0 = D0.getD K 0 := by
    rw [SP_out a2 _ (by omega) (by omega), SP_out a1 _ (by omega) (by omega), SP_in a3 (768 + K) (by omega) (by omega) (by omega), show 768 + K - (3 : Int32).toInt.toNat * 256 + (0 : Int32).toInt.toNat * 256 = K by rw [tn3, tn0]; omega]
  have s1 : D4.getD (256 + K) 0 = D2.getD (256 + K) 0 := by rw [SP_out a4 _ (by omega) (by omega)]
  have dd : D3.getD (256 + y.toInt.toNat) 0 = 2 := by rw [SP_out a3 _ (by omega) (by omega), d0, if_neg (by omega), if_pos rfl]
  refine ⟨?_, ?_, ?_, ?_⟩
  · rw [SP_out a4 K (by omega) (by omega), l2, base]
  · rw [s1]
    by_cases q : K = y.toInt.toNat
    · rw [if_pos q, SP_out a2 _ (by omega) (by omega), SP_out a1 _ (by omega) (by omega), q]
      exact dd
    · rw [if_neg q]
      have bs := base
      rw [if_neg q] at bs
      by_cases g : y.toInt.toNat < K
      · rw [SP_in a2 (256 + K) (by omega) (by omega) (by omega), show 256 + K - (1 : Int32).toInt.toNat * 256 + (0 : Int32).toInt.toNat * 256 = K by rw [tn1, tn0]; omega, l1, bs]
      · rw [SP_out a2 _ (by omega) (by omega), SP_in a1 (256 + K) (by omega) (by omega) (by omega), show 256 + K - (1 : Int32).toInt.toNat * 256 + (0 : Int32).toInt.toNat * 256 = K by rw [tn1, tn0]; omega, l3, bs]
  · rw [SP_in a4 (512 + K) (by omega) (by omega) (by omega), show 512 + K - (2 : Int32).toInt.toNat * 256 + (3 : Int32).toInt.toNat * 256 = 768 + K by rw [tn2, tn3]; omega, r3, base]
  · rw [SP_out a4 _ (by omega) (by omega), r3, base]
theorem tabE {x : Int32} (x0 : 0 ≤ x.toInt) (x1 : x.toInt < 256) {D0 D1 D2 D4 : List Int32} (d0 : ∀ k, D0.getD k 0 = if k = 256 + x.toInt.toNat then 2 else if k = x.toInt.toNat then 1 else 0) (a1 : SPR 1 0 0 x.toInt D0 D1) (a2 : SPR 1 0 (x.toInt + 1) 256 D1 D2) (a4 : SPR 2 1 0 256 D2 D4) : TBE x.toInt.toNat D4 := by
  have z0 := i_0
  have z1 := i_1
  have z2 : (2 : Int32).toInt = 2 := rfl
  have z3 : (3 : Int32).toInt = 3 := rfl
  intro K hK
  have base : D0.getD K 0 = (if K = x.toInt.toNat then 1 else 0) := by rw [d0 K, if_neg (by omega)]
  have l1 : D1.getD K 0 = D0.getD K 0 := by rw [SP_out a1 K (by omega) (by omega)]
  have l2 : D2.getD K 0 = D0.getD K 0 := by rw [SP_out a2 K (by omega) (by omega), l1]
  have m : D2.getD (256 + K) 0 = (if K = x.toInt.toNat then 2 else 0) := by
    by_cases q : K = x.toInt.toNat
    · rw [if_pos q, SP_out a2 _ (by omega) (by omega), SP_out a1 _ (by omega) (by omega), q, d0, if_pos rfl]
    · rw [if_neg q]
      have bs := base
      rw [if_neg q] at bs
      by_cases g : x.toInt.toNat < K
      · rw [SP_in a2 (256 + K) (by omega) (by omega) (by omega), show 256 + K - (1 : Int32).toInt.toNat * 256 + (0 : Int32).toInt.toNat * 256 = K by rw [tn1, tn0]; omega, l1, bs]
      · rw [SP_out a2 _ (by omega) (by omega), SP_in a1 (256 + K) (by omega) (by omega) (by omega), show 256 + K - (1 : Int32).toInt.toNat * 256 + (0 : Int32).toInt.toNat * 256 = K by rw [tn1, tn0]; omega, bs]
  refine ⟨?_, ?_, ?_⟩
  · rw [SP_out a4 K (by omega) (by omega), l2, base]
  · rw [SP_out a4 _ (by omega) (by omega), m]
  · rw [SP_in a4 (512 + K) (by omega) (by omega) (by omega), show 512 + K - (2 : Int32).toInt.toNat * 256 + (1 : Int32).toInt.toNat * 256 = 256 + K by rw [tn2, tn1]; omega, m]
theorem OM_a {A : Nat → List Int32} {k : Nat} {l : List Int32} (h : A k = l) : A k = l := h
set_option maxRecDepth 1000000 in
set_option maxHeartbeats 20000000 in
theorem auA {x y : Int32} (x0 : 0 ≤ x.toInt) (x1 : x.toInt < 256) (y0 : 0 ≤ y.toInt) (y1 : y.toInt < 256) (lt : x.toInt < y.toInt) (h : LN A) (d3 : A 3 = (setA (setA (setA RP x 1) (256 + y) 2) y 3)) (d4 : A 4 = ZP) (d5 : A 5 = setA (setA ZP 2 1) 3 2) (d6 : A 6 = ZP)
    (hQ : ∀ A', LN A' → TBN x.toInt.toNat y.toInt.toNat (A' 3) → (getA (A' 5) 0 = 0 ∧ getA (A' 5) 1 = 0 ∧ getA (A' 5) 2 = 3 ∧ getA (A' 5) 3 = 2) → (∀ j, j < 3 ∨ 6 < j → A' j = A j) → Q none (put 0 [] s A' [])) : M8 0 [.val (.ref 0), .unset, .unset, .unset, .unset, .unset, .unset, .unset, .unset] [] (put 0 [] s A []) Q := by
  have val : ∀ a : Int32, getA (A 3) a = if a.toInt.toNat = y.toInt.toNat then 3 else if a.toInt.toNat = 256 + y.toInt.toNat then 2 else if a.toInt.toNat = x.toInt.toNat then 1 else 0 := fun a => by rw [d3, gA, D0N x0 x1 y0 y1]
  have zer : ∀ a : Int32, a.toInt.toNat ≠ y.toInt.toNat → a.toInt.toNat ≠ 256 + y.toInt.toNat → a.toInt.toNat ≠ x.toInt.toNat → ¬ 0 < getA (A 3) a := fun a p q r => by rw [val a, if_neg p, if_neg q, if_neg r]; decide
  have ex := add1_i (a := x) (by omega)
  have ey := add1_i (a := y) (by omega)
  have nx := Int.toNat_of_nonneg x0
  have ny := Int.toNat_of_nonneg y0
  have e256 : (256 + y).toInt = 256 + y.toInt := by
    have := add_i (a := 256) (b := y) (by rw [i_256]; omega) (by rw [i_256]; omega)
    rw [this, i_256]
  have z0 := i_0
  have z1 := i_1
  have z256 := i_256
  simp [m8_0, m8_1u, m8_2, m8_3u, m8_5, m8_8, m8_11, m8_12, m8_15, m8_16, m8_17u, m8_17i, m8_17r, m8_17g, m8_18, m8_19, m8_22, m8_23, m8_25, m8_28, m8_29, m8_31, m8_34, m8_35, m8_38, m8_39, m8_40, m8_41, m8_42, m8_45, m8_46, m8_47, m8_48, m8_51, m8_54, m8_57, m8_58i, m8_60, m8_61, m8_64, m8_65, m8_67, m8_70, m8_71, m8_74, m8_75, m8_76u, m8_76i, m8_76r, m8_76g, m8_77, m8_80, m8_81, m8_84, m8_85, m8_87, m8_90, m8_93, m8_94, m8_97, m8_98, m8_99u, m8_99i, m8_99r, m8_99g, m8_101, m8_103, m8_106, m8_108, m8_110, m8_113, m8_114i, m8_116, m8_117, m8_120, m8_121, m8_122, m8_123, m8_124, m8_127, m8_129, m8_130, m8_131, m8_132, m8_133u, m8_133i, m8_133r, m8_133g, m8_137, m8_140, m8_143, m8_144, m8_147, m8_148, m8_150, m8_151u, m8_151i, m8_151r, m8_151g, m8_153, m8_154, m8_157, m8_159, m8_162, m8_163, m8_165, m8_166, m8_167u, m8_167i, m8_167r, m8_167g, m8_169, m8_170, m8_173, m8_175, m8_176u, m8_176i, m8_176r, m8_176g, m8_178, m8_180, m8_183, m8_185, m8_187, m8_190, m8_191, m8_194, m8_196, m8_198, m8_199, m8_200, m8_202, m8_205, m8_206, m8_209, m8_210, m8_212, m8_213, m8_216, m8_219, m8_220, m8_223, m8_225, m8_227, m8_228, m8_231, m8_234, m8_237, nb0, nb1, ou_a, Option.toList_some, Option.toList_none, List.nil_append, List.cons_append]
  refine sk1 h (cE := x) (by omega) (fun k3 o3 => ?_) x.toInt.toNat 0 _ okS_u (by decide) (by omega) (fun j p q => zer j (by omega) (by omega) (by omega))
  refine st1 h d4 o3 x0 x1 (v := 1) (by rw [val, if_neg (by omega), if_neg (by omega), if_pos rfl]) (by decide) (by decide) (by decide) (by decide) ?_
  have hA1 : LN (ou A 6 (setA (A 6) 0 1)) := LN_ou h (by simp only [setA_len]; exact h _)
  refine sk1 hA1 (cE := y) (by omega) (fun k3 o3 => ?_) (y.toInt - x.toInt - 1).toNat (x + 1) _ (okS_i _) (by rw [nn_i]; omega) (by omega) (fun j p q => zer j (by omega) (by omega) (by omega))
  refine st1 hA1 d4 o3 y0 y1 (v := 3) (by show getA (A 3) y = 3; rw [val, if_pos rfl]) (by decide) (by decide) (by decide) (by decide) ?_
  have hA2 : LN (ou (ou A 6 (setA (A 6) 0 1)) 6 (setA ((ou A 6 (setA (A 6) 0 1)) 6) (0 + 1) 3)) := LN_ou hA1 (by simp only [setA_len]; exact hA1 _)
  refine sk1 hA2 (cE := 256) (by decide) (fun k3 o3 => ?_) (255 - y.toInt).toNat (y + 1) _ (okS_i _) (by rw [nn_i]; omega) (by omega) (fun j p q => zer j (by omega) (by omega) (by omega))
  rw [m8_4]
  simp [m8_0, m8_1u, m8_2, m8_3u, m8_5, m8_8, m8_11, m8_12, m8_15, m8_16, m8_17u, m8_17i, m8_17r, m8_17g, m8_18, m8_19, m8_22, m8_23, m8_25, m8_28, m8_29, m8_31, m8_34, m8_35, m8_38, m8_39, m8_40, m8_41, m8_42, m8_45, m8_46, m8_47, m8_48, m8_51, m8_54, m8_57, m8_58i, m8_60, m8_61, m8_64, m8_65, m8_67, m8_70, m8_71, m8_74, m8_75, m8_76u, m8_76i, m8_76r, m8_76g, m8_77, m8_80, m8_81, m8_84, m8_85, m8_87, m8_90, m8_93, m8_94, m8_97, m8_98, m8_99u, m8_99i, m8_99r, m8_99g, m8_101, m8_103, m8_106, m8_108, m8_110, m8_113, m8_114i, m8_116, m8_117, m8_120, m8_121, m8_122, m8_123, m8_124, m8_127, m8_129, m8_130, m8_131, m8_132, m8_133u, m8_133i, m8_133r, m8_133g, m8_137, m8_140, m8_143, m8_144, m8_147, m8_148, m8_150, m8_151u, m8_151i, m8_151r, m8_151g, m8_153, m8_154, m8_157, m8_159, m8_162, m8_163, m8_165, m8_166, m8_167u, m8_167i, m8_167r, m8_167g, m8_169, m8_170, m8_173, m8_175, m8_176u, m8_176i, m8_176r, m8_176g, m8_178, m8_180, m8_183, m8_185, m8_187, m8_190, m8_191, m8_194, m8_196, m8_198, m8_199, m8_200, m8_202, m8_205, m8_206, m8_209, m8_210, m8_212, m8_213, m8_216, m8_219, m8_220, m8_223, m8_225, m8_227, m8_228, m8_231, m8_234, m8_237, nb0, nb1, ou_a, Option.toList_some, Option.toList_none, List.nil_append, List.cons_append]
  refine nd1 hA2 (y := y) (w := 3) o3 okS_u okS_u okS_u okS_u okS_u (by decide) (by decide) (by decide) (by simp [d6, getA_set2, setA_len, ZPl, gZ, ou_a]) (by simp [d4, getA_set2, setA_len, ZPl, gZ, ou_a]) y0 y1 (by decide) (by decide) (by show getA (A 3) y = 3; rw [val, if_pos rfl]) (by show getA (A 3) (256 + y) = 2; rw [val, if_neg (by omega), if_pos (by omega)]) (fun j p q r => ?_) (fun D1 D2 k4 k5 k6 k7 k8 l1 l2 sp1 sp2 p4 p5 p6 p7 p8 => ?_)
  · have ej := ix (u := 1) (c := j) (by decide) (by decide) p q
    exact zer _ (by omega) (by omega) (by omega)
  refine ndN (u := 3) (f := 0) (by (repeat refine LN_ou ?_ (by first | exact l2.trans A0l_3.symm | exact l1.trans A0l_3.symm | exact l3.trans A0l_3.symm | (simp only [setA_len]; exact hA2 _) | (rw [setA_len]; show (setA (A 5) 1 _).length = _; rw [setA_len]; exact h 5) | (rw [setA_len]; show (setA (setA (A 5) 1 _) 3 _).length = _; rw [setA_len, setA_len]; exact h 5))); exact hA2) (okS_i _) p4 p5 p6 p7 p8 (by decide) (by decide) (by decide) (by simp [d6, getA_set2, setA_len, ZPl, gZ, ou_a]) (by decide) (by decide) (by simp [d4, getA_set2, setA_len, ZPl, gZ, ou_a]) (by decide) (by decide) (by decide) (fun j p q => ?_) (fun D3 k4 k5 k6 k7 k8 l3 sp3 p4 p5 p6 p7 p8 => ?_)
  · have ej := ix (u := 3) (c := j) (by decide) (by decide) p q
    have z3 : (3 : Int32).toInt = 3 := rfl
    have := zer (3 * 256 + j) (by omega) (by omega) (by omega)
    rw [gA] at this
    show ¬ 0 < getA D2 _
    rw [gA, SP_out sp2 _ (by omega) (by omega), SP_out sp1 _ (by omega) (by omega)]
    exact this
  refine ndN (u := 2) (f := 3) (by (repeat refine LN_ou ?_ (by first | exact l2.trans A0l_3.symm | exact l1.trans A0l_3.symm | exact l3.trans A0l_3.symm | (simp only [setA_len]; exact hA2 _) | (rw [setA_len]; show (setA (A 5) 1 _).length = _; rw [setA_len]; exact h 5) | (rw [setA_len]; show (setA (setA (A 5) 1 _) 3 _).length = _; rw [setA_len, setA_len]; exact h 5))); exact hA2) (okS_i _) p4 p5 p6 p7 p8 (by decide) (by decide) (by decide) (by simp [d6, getA_set2, setA_len, ZPl, gZ, ou_a]) (by decide) (by decide) (by simp [d4, getA_set2, setA_len, ZPl, gZ, ou_a]) (by decide) (by decide) (by decide) (fun j p q => ?_) (fun D4 k4 k5 k6 k7 k8 l4 sp4 p4 p5 p6 p7 p8 => ?_)
  · have ej := ix (u := 2) (c := j) (by decide) (by decide) p q
    have z2 : (2 : Int32).toInt = 2 := rfl
    have z3 : (3 : Int32).toInt = 3 := rfl
    have := zer (2 * 256 + j) (by omega) (by omega) (by omega)
    rw [gA] at this
    show ¬ 0 < getA D3 _
    rw [gA, SP_out sp3 _ (by omega) (by omega)]
    show ¬ 0 < D2.getD _ 0
    rw [SP_out sp2 _ (by omega) (by omega), SP_out sp1 _ (by omega) (by omega)]
    exact this
  rw [m8_59]
  simp [m8_0, m8_1u, m8_2, m8_3u, m8_5, m8_8, m8_11, m8_12, m8_15, m8_16, m8_17u, m8_17i, m8_17r, m8_17g, m8_18, m8_19, m8_22, m8_23, m8_25, m8_28, m8_29, m8_31, m8_34, m8_35, m8_38, m8_39, m8_40, m8_41, m8_42, m8_45, m8_46, m8_47, m8_48, m8_51, m8_54, m8_57, m8_58i, m8_60, m8_61, m8_64, m8_65, m8_67, m8_70, m8_71, m8_74, m8_75, m8_76u, m8_76i, m8_76r, m8_76g, m8_77, m8_80, m8_81, m8_84, m8_85, m8_87, m8_90, m8_93, m8_94, m8_97, m8_98, m8_99u, m8_99i, m8_99r, m8_99g, m8_101, m8_103, m8_106, m8_108, m8_110, m8_113, m8_114i, m8_116, m8_117, m8_120, m8_121, m8_122, m8_123, m8_124, m8_127, m8_129, m8_130, m8_131, m8_132, m8_133u, m8_133i, m8_133r, m8_133g, m8_137, m8_140, m8_143, m8_144, m8_147, m8_148, m8_150, m8_151u, m8_151i, m8_151r, m8_151g, m8_153, m8_154, m8_157, m8_159, m8_162, m8_163, m8_165, m8_166, m8_167u, m8_167i, m8_167r, m8_167g, m8_169, m8_170, m8_173, m8_175, m8_176u, m8_176i, m8_176r, m8_176g, m8_178, m8_180, m8_183, m8_185, m8_187, m8_190, m8_191, m8_194, m8_196, m8_198, m8_199, m8_200, m8_202, m8_205, m8_206, m8_209, m8_210, m8_212, m8_213, m8_216, m8_219, m8_220, m8_223, m8_225, m8_227, m8_228, m8_231, m8_234, m8_237, nb0, nb1, ou_a, Option.toList_some, Option.toList_none, List.nil_append, List.cons_append]
  refine hQ _ (by (repeat refine LN_ou ?_ (by first | exact l4.trans A0l_3.symm | exact l3.trans A0l_3.symm | exact l2.trans A0l_3.symm | exact l1.trans A0l_3.symm | (simp only [setA_len]; exact h _))); exact h) ?_ ?_ ?_
  · exact tabA x0 x1 y0 y1 (by omega) (D0 := A 3) (fun k => by rw [d3, D0N x0 x1 y0 y1]) sp1 sp2 sp3 sp4
  · simp [d5, or12, getA_set2, setA_len, ZPl, gZ, ou_a]
  · intro j hj
    simp only [ou_a, if_neg (show ¬ j = 3 by omega), if_neg (show ¬ j = 4 by omega), if_neg (show ¬ j = 5 by omega), if_neg (show ¬ j = 6 by omega)]
set_option maxRecDepth 1000000 in
set_option maxHeartbeats 20000000 in
theorem auB {x y : Int32} (x0 : 0 ≤ x.toInt) (x1 : x.toInt < 256) (y0 : 0 ≤ y.toInt) (y1 : y.toInt < 256) (lt : y.toInt < x.toInt) (h : LN A) (d3 : A 3 = (setA (setA (setA RP x 1) (256 + y) 2) y 3)) (d4 : A 4 = ZP) (d5 : A 5 = setA (setA ZP 2 1) 3 2) (d6 : A 6 = ZP)
    (hQ : ∀ A', LN A' → TBN x.toInt.toNat y.toInt.toNat (A' 3) → (getA (A' 5) 0 = 0 ∧ getA (A' 5) 1 = 0 ∧ getA (A' 5) 2 = 3 ∧ getA (A' 5) 3 = 2) → (∀ j, j < 3 ∨ 6 < j → A' j = A j) → Q none (put 0 [] s A' [])) : M8 0 [.val (.ref 0), .unset, .unset, .unset, .unset, .unset, .unset, .unset, .unset] [] (put 0 [] s A []) Q := by
  have val : ∀ a : Int32, getA (A 3) a = if a.toInt.toNat = y.toInt.toNat then 3 else if a.toInt.toNat = 256 + y.toInt.toNat then 2 else if a.toInt.toNat = x.toInt.toNat then 1 else 0 := fun a => by rw [d3, gA, D0N x0 x1 y0 y1]
  have zer : ∀ a : Int32, a.toInt.toNat ≠ y.toInt.toNat → a.toInt.toNat ≠ 256 + y.toInt.toNat → a.toInt.toNat ≠ x.toInt.toNat → ¬ 0 < getA (A 3) a := fun a p q r => by rw [val a, if_neg p, if_neg q, if_neg r]; decide
  have ex := add1_i (a := x) (by omega)
  have ey := add1_i (a := y) (by omega)
  have nx := Int.toNat_of_nonneg x0
  have ny := Int.toNat_of_nonneg y0
  have e256 : (256 + y).toInt = 256 + y.toInt := by
    have := add_i (a := 256) (b := y) (by rw [i_256]; omega) (by rw [i_256]; omega)
    rw [this, i_256]
  have z0 := i_0
  have z1 := i_1
  have z2 : (2 : Int32).toInt = 2 := rfl
  have z3 : (3 : Int32).toInt = 3 := rfl
  have z256 := i_256
  simp [m8_0, m8_1u, m8_2, m8_3u, m8_5, m8_8, m8_11, m8_12, m8_15, m8_16, m8_17u, m8_17i, m8_17r, m8_17g, m8_18, m8_19, m8_22, m8_23, m8_25, m8_28, m8_29, m8_31, m8_34, m8_35, m8_38, m8_39, m8_40, m8_41, m8_42, m8_45, m8_46, m8_47, m8_48, m8_51, m8_54, m8_57, m8_58i, m8_60, m8_61, m8_64, m8_65, m8_67, m8_70, m8_71, m8_74, m8_75, m8_76u, m8_76i, m8_76r, m8_76g, m8_77, m8_80, m8_81, m8_84, m8_85, m8_87, m8_90, m8_93, m8_94, m8_97, m8_98, m8_99u, m8_99i, m8_99r, m8_99g, m8_101, m8_103, m8_106, m8_108, m8_110, m8_113, m8_114i, m8_116, m8_117, m8_120, m8_121, m8_122, m8_123, m8_124, m8_127, m8_129, m8_130, m8_131, m8_132, m8_133u, m8_133i, m8_133r, m8_133g, m8_137, m8_140, m8_143, m8_144, m8_147, m8_148, m8_150, m8_151u, m8_151i, m8_151r, m8_151g, m8_153, m8_154, m8_157, m8_159, m8_162, m8_163, m8_165, m8_166, m8_167u, m8_167i, m8_167r, m8_167g, m8_169, m8_170, m8_173, m8_175, m8_176u, m8_176i, m8_176r, m8_176g, m8_178, m8_180, m8_183, m8_185, m8_187, m8_190, m8_191, m8_194, m8_196, m8_198, m8_199, m8_200, m8_202, m8_205, m8_206, m8_209, m8_210, m8_212, m8_213, m8_216, m8_219, m8_220, m8_223, m8_225, m8_227, m8_228, m8_231, m8_234, m8_237, nb0, nb1, ou_a, Option.toList_some, Option.toList_none, List.nil_append, List.cons_append]
  refine sk1 h (cE := y) (by omega) (fun k3 o3 => ?_) y.toInt.toNat 0 _ okS_u (by decide) (by omega) (fun j p q => zer j (by omega) (by omega) (by omega))
  refine st1 h d4 o3 y0 y1 (v := 3) (by rw [val, if_pos rfl]) (by decide) (by decide) (by decide) (by decide) ?_
  have hA1 : LN (ou A 6 (setA (A 6) 0 3)) := LN_ou h (by simp only [setA_len]; exact h _)
  refine sk1 hA1 (cE := x) (by omega) (fun k3 o3 => ?_) (x.toInt - y.toInt - 1).toNat (y + 1) _ (okS_i _) (by rw [nn_i]; omega) (by omega) (fun j p q => zer j (by omega) (by omega) (by omega))
  refine st1 hA1 d4 o3 x0 x1 (v := 1) (by show getA (A 3) x = 1; rw [val, if_neg (by omega), if_neg (by omega), if_pos rfl]) (by decide) (by decide) (by decide) (by decide) ?_
  have hA2 : LN (ou (ou A 6 (setA (A 6) 0 3)) 6 (setA ((ou A 6 (setA (A 6) 0 3)) 6) (0 + 1) 1)) := LN_ou hA1 (by simp only [setA_len]; exact hA1 _)
  refine sk1 hA2 (cE := 256) (by decide) (fun k3 o3 => ?_) (255 - x.toInt).toNat (x + 1) _ (okS_i _) (by rw [nn_i]; omega) (by omega) (fun j p q => zer j (by omega) (by omega) (by omega))
  rw [m8_4]
  simp [m8_0, m8_1u, m8_2, m8_3u, m8_5, m8_8, m8_11, m8_12, m8_15, m8_16, m8_17u, m8_17i, m8_17r, m8_17g, m8_18, m8_19, m8_22, m8_23, m8_25, m8_28, m8_29, m8_31, m8_34, m8_35, m8_38, m8_39, m8_40, m8_41, m8_42, m8_45, m8_46, m8_47, m8_48, m8_51, m8_54, m8_57, m8_58i, m8_60, m8_61, m8_64, m8_65, m8_67, m8_70, m8_71, m8_74, m8_75, m8_76u, m8_76i, m8_76r, m8_76g, m8_77, m8_80, m8_81, m8_84, m8_85, m8_87, m8_90, m8_93, m8_94, m8_97, m8_98, m8_99u, m8_99i, m8_99r, m8_99g, m8_101, m8_103, m8_106, m8_108, m8_110, m8_113, m8_114i, m8_116, m8_117, m8_120, m8_121, m8_122, m8_123, m8_124, m8_127, m8_129, m8_130, m8_131, m8_132, m8_133u, m8_133i, m8_133r, m8_133g, m8_137, m8_140, m8_143, m8_144, m8_147, m8_148, m8_150, m8_151u, m8_151i, m8_151r, m8_151g, m8_153, m8_154, m8_157, m8_159, m8_162, m8_163, m8_165, m8_166, m8_167u, m8_167i, m8_167r, m8_167g, m8_169, m8_170, m8_173, m8_175, m8_176u, m8_176i, m8_176r, m8_176g, m8_178, m8_180, m8_183, m8_185, m8_187, m8_190, m8_191, m8_194, m8_196, m8_198, m8_199, m8_200, m8_202, m8_205, m8_206, m8_209, m8_210, m8_212, m8_213, m8_216, m8_219, m8_220, m8_223, m8_225, m8_227, m8_228, m8_231, m8_234, m8_237, nb0, nb1, ou_a, Option.toList_some, Option.toList_none, List.nil_append, List.cons_append]
  refine ndN (u := 3) (f := 0) hA2 o3 okS_u okS_u okS_u okS_u okS_u (by decide) (by decide) (by decide) (by simp [d6, getA_set2, setA_len, ZPl, gZ, ou_a]) (by decide) (by decide) (by simp [d4, getA_set2, setA_len, ZPl, gZ, ou_a]) (by decide) (by decide) (by decide) (fun j p q => ?_) (fun D3 k4 k5 k6 k7 k8 l3 sp3 p4 p5 p6 p7 p8 => ?_)
  · have ej := ix (u := 3) (c := j) (by decide) (by decide) p q
    exact zer (3 * 256 + j) (by omega) (by omega) (by omega)
  refine nd1 (LN_ou (LN_ou hA2 (by simp only [setA_len]; exact hA2 _)) (l3.trans A0l_3.symm)) (y := y) (w := 3) (okS_i _) p4 p5 p6 p7 p8 (by decide) (by decide) (by decide) (by simp [d6, getA_set2, setA_len, ZPl, gZ, ou_a]) (by simp [d4, getA_set2, setA_len, ZPl, gZ, ou_a]) y0 y1 (by decide) (by decide) ?_ ?_ (fun j p q r => ?_) (fun D1 D2 k4 k5 k6 k7 k8 l1 l2 sp1 sp2 p4 p5 p6 p7 p8 => ?_)
  · show getA D3 y = 3
    rw [gA, SP_out sp3 _ (by omega) (by omega)]
    show (A 3).getD _ 0 = 3
    rw [← gA, val, if_pos rfl]
  · show getA D3 (256 + y) = 2
    rw [gA, SP_out sp3 _ (by omega) (by omega)]
    show (A 3).getD _ 0 = 2
    rw [← gA, val, if_neg (by omega), if_pos (by omega)]
  · have ej := ix (u := 1) (c := j) (by decide) (by decide) p q
    have := zer (1 * 256 + j) (by omega) (by omega) (by omega)
    rw [gA] at this
    show ¬ 0 < getA D3 _
    rw [gA, SP_out sp3 _ (by omega) (by omega)]
    exact this
  have hB : LN (ou (ou (ou (ou A 6 (setA (A 6) 0 3)) 6 (setA ((ou A 6 (setA (A 6) 0 3)) 6) (0 + 1) 1)) 5 (setA ((ou (ou A 6 (setA (A 6) 0 3)) 6 (setA ((ou A 6 (setA (A 6) 0 3)) 6) (0 + 1) 1)) 5) 3 (getA ((ou (ou A 6 (setA (A 6) 0 3)) 6 (setA ((ou A 6 (setA (A 6) 0 3)) 6) (0 + 1) 1)) 5) 3 ||| getA ((ou (ou A 6 (setA (A 6) 0 3)) 6 (setA ((ou A 6 (setA (A 6) 0 3)) 6) (0 + 1) 1)) 5) 0))) 3 D3) := LN_ou (LN_ou hA2 (by simp only [setA_len]; exact hA2 _)) (l3.trans A0l_3.symm)
  refine ndN (u := 2) (f := 3) (LN_ou (LN_ou (LN_ou (LN_ou (LN_ou hB (by simp only [setA_len]; exact hB _)) (l1.trans A0l_3.symm)) (by simp only [setA_len]; exact hB _)) (by simp only [setA_len]; exact hB _)) (l2.trans A0l_3.symm)) (okS_i _) p4 p5 p6 p7 p8 (by decide) (by decide) (by decide) (by simp [d6, getA_set2, setA_len, ZPl, gZ, ou_a]) (by decide) (by decide) (by simp [d4, getA_set2, setA_len, ZPl, gZ, ou_a]) (by decide) (by decide) (by decide) (fun j p q => ?_) (fun D4 k4 k5 k6 k7 k8 l4 sp4 p4 p5 p6 p7 p8 => ?_)
  · have ej := ix (u := 2) (c := j) (by decide) (by decide) p q
    have := zer (2 * 256 + j) (by omega) (by omega) (by omega)
    rw [gA] at this
    show ¬ 0 < getA D2 _
    rw [gA, SP_out sp2 _ (by omega) (by omega), SP_out sp1 _ (by omega) (by omega)]
    show ¬ 0 < D3.getD _ 0
    rw [SP_out sp3 _ (by omega) (by omega)]
    exact this
  rw [m8_59]
  simp [m8_0, m8_1u, m8_2, m8_3u, m8_5, m8_8, m8_11, m8_12, m8_15, m8_16, m8_17u, m8_17i, m8_17r, m8_17g, m8_18, m8_19, m8_22, m8_23, m8_25, m8_28, m8_29, m8_31, m8_34, m8_35, m8_38, m8_39, m8_40, m8_41, m8_42, m8_45, m8_46, m8_47, m8_48, m8_51, m8_54, m8_57, m8_58i, m8_60, m8_61, m8_64, m8_65, m8_67, m8_70, m8_71, m8_74, m8_75, m8_76u, m8_76i, m8_76r, m8_76g, m8_77, m8_80, m8_81, m8_84, m8_85, m8_87, m8_90, m8_93, m8_94, m8_97, m8_98, m8_99u, m8_99i, m8_99r, m8_99g, m8_101, m8_103, m8_106, m8_108, m8_110, m8_113, m8_114i, m8_116, m8_117, m8_120, m8_121, m8_122, m8_123, m8_124, m8_127, m8_129, m8_130, m8_131, m8_132, m8_133u, m8_133i, m8_133r, m8_133g, m8_137, m8_140, m8_143, m8_144, m8_147, m8_148, m8_150, m8_151u, m8_151i, m8_151r, m8_151g, m8_153, m8_154, m8_157, m8_159, m8_162, m8_163, m8_165, m8_166, m8_167u, m8_167i, m8_167r, m8_167g, m8_169, m8_170, m8_173, m8_175, m8_176u, m8_176i, m8_176r, m8_176g, m8_178, m8_180, m8_183, m8_185, m8_187, m8_190, m8_191, m8_194, m8_196, m8_198, m8_199, m8_200, m8_202, m8_205, m8_206, m8_209, m8_210, m8_212, m8_213, m8_216, m8_219, m8_220, m8_223, m8_225, m8_227, m8_228, m8_231, m8_234, m8_237, nb0, nb1, ou_a, Option.toList_some, Option.toList_none, List.nil_append, List.cons_append]
  refine hQ _ (by (repeat refine LN_ou ?_ (by first | exact l4.trans A0l_3.symm | exact l3.trans A0l_3.symm | exact l2.trans A0l_3.symm | exact l1.trans A0l_3.symm | (simp only [setA_len]; exact h _))); exact h) ?_ ?_ ?_
  · exact tabB x0 x1 y0 y1 (by omega) (D0 := A 3) (fun k => by rw [d3, D0N x0 x1 y0 y1]) sp1 sp2 sp3 sp4
  · simp [d5, or12, getA_set2, setA_len, ZPl, gZ, ou_a]
  · intro j hj
    simp only [ou_a, if_neg (show ¬ j = 3 by omega), if_neg (show ¬ j = 4 by omega), if_neg (show ¬ j = 5 by omega), if_neg (show ¬ j = 6 by omega)]
set_option maxRecDepth 1000000 in
set_option maxHeartbeats 20000000 in
theorem trE {x : Int32} (x0 : 0 ≤ x.toInt) (x1 : x.toInt < 256) (h : LN A) (a0 : A 0 = setA (setA (setA (A0 0) 0 x) 1 x) 2 x) (a1 : A 1 = setA (setA (A0 1) 0 0) 1 2) (a2 : A 2 = setA (setA (A0 2) 0 2) 1 1) (a3 : A 3 = RP) (a4 : A 4 = ZP) (a5 : A 5 = ZP) (a6 : A 6 = ZP) (h2 : s 2 = 2) (hQ : Q none (put 0 [] (ou s 5 3) (ou (ou A 3 (setA (setA RP x 1) (256 + x) 2)) 5 (setA (setA ZP 2 1) 1 2)) [])) : M5 0 [.val (.ref 0), .unset] [] (put 0 [] s A []) Q := by
  have y0 := x0
  have y1 := x1
  have e256 : (256 + x).toInt = 256 + x.toInt := by
    have := add_i (a := 256) (b := x) (by rw [i_256]; omega) (by rw [i_256]; omega)
    rw [this, i_256]
  have p1 : ¬ x < 0 := by rw [nn_i]; omega
  have p2 : x < 16640 := by rw [lt_i, i_16640]; omega
  have p3 : ¬ x < 0 := by rw [nn_i]; omega
  have p4 : x < 16640 := by rw [lt_i, i_16640]; omega
  have p5 : ¬ 256 + x < 0 := by rw [nn_i]; omega
  have p6 : 256 + x < 16640 := by rw [lt_i, i_16640]; omega
  have n1 : x.toNatClampNeg < 16640 := by rw [toNat_eq]; omega
  have n2 : x.toNatClampNeg < 16640 := by rw [toNat_eq]; omega
  have n3 : (256 + x).toNatClampNeg < 16640 := by rw [toNat_eq, e256]; omega
  have m1 : ¬ (256 + x).toNatClampNeg = x.toNatClampNeg := by rw [toNat_eq, toNat_eq, e256]; omega
  have m2 : ¬ x.toNatClampNeg = (256 + x).toNatClampNeg := by rw [toNat_eq, toNat_eq, e256]; omega
  have q1 : inB x RP := by rw [inB_iff, RPl]; omega
  have q2 : inB x RP := by rw [inB_iff, RPl]; omega
  have q3 : inB (256 + x) RP := by rw [inB_iff, RPl, e256]; omega
  have z00 : inB 0 (A0 0) := by simp [inB_iff, A0l_0]
  have z01 : inB 1 (A0 0) := by simp [inB_iff, A0l_0]
  have z02 : inB 2 (A0 0) := by simp [inB_iff, A0l_0]
  have z10 : inB 0 (A0 1) := by simp [inB_iff, A0l_1]
  have z11 : inB 1 (A0 1) := by simp [inB_iff, A0l_1]
  have z20 : inB 0 (A0 2) := by simp [inB_iff, A0l_2]
  have z21 : inB 1 (A0 2) := by simp [inB_iff, A0l_2]
  have w1 : inB 1 ZP := by simp [inB_iff, ZPl]
  have w2 : inB 2 ZP := by simp [inB_iff, ZPl]
  have w3 : inB 3 ZP := by simp [inB_iff, ZPl]
  simp [m5_0, m5_1, nb0, nb1, ou_a, Option.toList_some, Option.toList_none, List.nil_append, List.cons_append]
  refine c6 h a3 a4 a5 a6 ?_
  simp [p1, p2, p3, p4, p5, p6, n1, n2, n3, m1, m2, q1, q2, q3, z00, z01, z02, z10, z11, z20, z21, w1, w2, w3, inB_set, getA_set2, setA_len, A0g_0, A0g_1, A0g_2, A0l_0, A0l_1, A0l_2, gZ, gR, RPl, ZPl, ou_same, ou_comm, a0, a1, a2, a3, a5, h2, sh0, sh1, or01, or02, m5_0, m5_1, m5_4, m5_5, m5_6, m5_9, m5_10u, m5_11, m5_12, m5_13, m5_16, m5_19, m5_20, m5_22, m5_25, m5_26, m5_27, m5_30, m5_33, m5_36, m7_0, m7_1, m7_4, m7_5, m7_7, m7_10, m7_11, m7_12, m7_15, m7_16, m7_17u, m7_18, m7_19, m7_22, m7_23, m7_24u, m7_25, m7_26u, m7_28, m7_29u, m7_31, m7_33, m7_34, m7_37, m7_39, m7_41, m7_44, m7_45, m7_47, m7_48u, m7_48i, m7_48r, m7_48g, m7_50, m7_52, m7_55, m7_57, m7_59, m7_62, m7_63, m7_65, m7_68, m7_69, m7_70, m7_73, m7_75, m7_76, m7_77u, m7_77i, m7_77r, m7_77g, m7_79, m7_81, m7_84, m7_86, m7_89, m7_92, m7_93, m7_94, m7_97, m7_99, m7_100, m7_103, m7_104, m7_107, m7_109, m7_112, m7_113, m7_114, m7_117, m7_119, m7_120, m7_123, m7_124, m7_125, m7_126, m7_129, m7_130, m7_131, m7_134, m7_135, m7_138, m7_140, m7_141i, m7_143, m7_146, m7_149, m7_151, m7_154, m7_156, m7_158, m7_161, m7_162, m7_165, m7_167, m7_168, m7_169, m7_170, m7_171, m7_172, m7_173, m7_174, nb0, nb1, ou_a, Option.toList_some, Option.toList_none, List.nil_append, List.cons_append]
  exact hQ
set_option maxRecDepth 1000000 in
set_option maxHeartbeats 20000000 in
theorem auE {x : Int32} (x0 : 0 ≤ x.toInt) (x1 : x.toInt < 256) (h : LN A) (d3 : A 3 = (setA (setA RP x 1) (256 + x) 2)) (d4 : A 4 = ZP) (d5 : A 5 = setA (setA ZP 2 1) 1 2) (d6 : A 6 = ZP)
    (hQ : ∀ A', LN A' → TBE x.toInt.toNat (A' 3) → (getA (A' 5) 0 = 0 ∧ getA (A' 5) 1 = 2 ∧ getA (A' 5) 2 = 3) → (∀ j, j < 3 ∨ 6 < j → A' j = A j) → Q none (put 0 [] s A' [])) : M8 0 [.val (.ref 0), .unset, .unset, .unset, .unset, .unset, .unset, .unset, .unset] [] (put 0 [] s A []) Q := by
  have y0 := x0
  have y1 := x1
  have val : ∀ a : Int32, getA (A 3) a = if a.toInt.toNat = 256 + x.toInt.toNat then 2 else if a.toInt.toNat = x.toInt.toNat then 1 else 0 := fun a => by rw [d3, gA, D0E x0 x1]
  have zer : ∀ a : Int32, a.toInt.toNat ≠ 256 + x.toInt.toNat → a.toInt.toNat ≠ x.toInt.toNat → ¬ 0 < getA (A 3) a := fun a q r => by rw [val a, if_neg q, if_neg r]; decide
  have ex := add1_i (a := x) (by omega)
  have nx := Int.toNat_of_nonneg x0
  have e256 : (256 + x).toInt = 256 + x.toInt := by
    have := add_i (a := 256) (b := x) (by rw [i_256]; omega) (by rw [i_256]; omega)
    rw [this, i_256]
  have z0 := i_0
  have z1 := i_1
  have z2 : (2 : Int32).toInt = 2 := rfl
  have z3 : (3 : Int32).toInt = 3 := rfl
  have z256 := i_256
  simp [m8_0, m8_1u, m8_2, m8_3u, m8_5, m8_8, m8_11, m8_12, m8_15, m8_16, m8_17u, m8_17i, m8_17r, m8_17g, m8_18, m8_19, m8_22, m8_23, m8_25, m8_28, m8_29, m8_31, m8_34, m8_35, m8_38, m8_39, m8_40, m8_41, m8_42, m8_45, m8_46, m8_47, m8_48, m8_51, m8_54, m8_57, m8_58i, m8_60, m8_61, m8_64, m8_65, m8_67, m8_70, m8_71, m8_74, m8_75, m8_76u, m8_76i, m8_76r, m8_76g, m8_77, m8_80, m8_81, m8_84, m8_85, m8_87, m8_90, m8_93, m8_94, m8_97, m8_98, m8_99u, m8_99i, m8_99r, m8_99g, m8_101, m8_103, m8_106, m8_108, m8_110, m8_113, m8_114i, m8_116, m8_117, m8_120, m8_121, m8_122, m8_123, m8_124, m8_127, m8_129, m8_130, m8_131, m8_132, m8_133u, m8_133i, m8_133r, m8_133g, m8_137, m8_140, m8_143, m8_144, m8_147, m8_148, m8_150, m8_151u, m8_151i, m8_151r, m8_151g, m8_153, m8_154, m8_157, m8_159, m8_162, m8_163, m8_165, m8_166, m8_167u, m8_167i, m8_167r, m8_167g, m8_169, m8_170, m8_173, m8_175, m8_176u, m8_176i, m8_176r, m8_176g, m8_178, m8_180, m8_183, m8_185, m8_187, m8_190, m8_191, m8_194, m8_196, m8_198, m8_199, m8_200, m8_202, m8_205, m8_206, m8_209, m8_210, m8_212, m8_213, m8_216, m8_219, m8_220, m8_223, m8_225, m8_227, m8_228, m8_231, m8_234, m8_237, nb0, nb1, ou_a, Option.toList_some, Option.toList_none, List.nil_append, List.cons_append]
  refine sk1 h (cE := x) (by omega) (fun k3 o3 => ?_) x.toInt.toNat 0 _ okS_u (by decide) (by omega) (fun j p q => zer j (by omega) (by omega))
  refine st1 h d4 o3 x0 x1 (v := 1) (by rw [val, if_neg (by omega), if_pos rfl]) (by decide) (by decide) (by decide) (by decide) ?_
  have hA2 : LN (ou A 6 (setA (A 6) 0 1)) := LN_ou h (by simp only [setA_len]; exact h _)
  refine sk1 hA2 (cE := 256) (by decide) (fun k3 o3 => ?_) (255 - x.toInt).toNat (x + 1) _ (okS_i _) (by rw [nn_i]; omega) (by omega) (fun j p q => zer j (by omega) (by omega))
  rw [m8_4]
  simp [m8_0, m8_1u, m8_2, m8_3u, m8_5, m8_8, m8_11, m8_12, m8_15, m8_16, m8_17u, m8_17i, m8_17r, m8_17g, m8_18, m8_19, m8_22, m8_23, m8_25, m8_28, m8_29, m8_31, m8_34, m8_35, m8_38, m8_39, m8_40, m8_41, m8_42, m8_45, m8_46, m8_47, m8_48, m8_51, m8_54, m8_57, m8_58i, m8_60, m8_61, m8_64, m8_65, m8_67, m8_70, m8_71, m8_74, m8_75, m8_76u, m8_76i, m8_76r, m8_76g, m8_77, m8_80, m8_81, m8_84, m8_85, m8_87, m8_90, m8_93, m8_94, m8_97, m8_98, m8_99u, m8_99i, m8_99r, m8_99g, m8_101, m8_103, m8_106, m8_108, m8_110, m8_113, m8_114i, m8_116, m8_117, m8_120, m8_121, m8_122, m8_123, m8_124, m8_127, m8_129, m8_130, m8_131, m8_132, m8_133u, m8_133i, m8_133r, m8_133g, m8_137, m8_140, m8_143, m8_144, m8_147, m8_148, m8_150, m8_151u, m8_151i, m8_151r, m8_151g, m8_153, m8_154, m8_157, m8_159, m8_162, m8_163, m8_165, m8_166, m8_167u, m8_167i, m8_167r, m8_167g, m8_169, m8_170, m8_173, m8_175, m8_176u, m8_176i, m8_176r, m8_176g, m8_178, m8_180, m8_183, m8_185, m8_187, m8_190, m8_191, m8_194, m8_196, m8_198, m8_199, m8_200, m8_202, m8_205, m8_206, m8_209, m8_210, m8_212, m8_213, m8_216, m8_219, m8_220, m8_223, m8_225, m8_227, m8_228, m8_231, m8_234, m8_237, nb0, nb1, ou_a, Option.toList_some, Option.toList_none, List.nil_append, List.cons_append]
  refine nd1 hA2 (y := x) (w := 1) o3 okS_u okS_u okS_u okS_u okS_u (by decide) (by decide) (by decide) (by simp [d6, getA_set2, setA_len, ZPl, gZ, ou_a]) (by simp [d4, getA_set2, setA_len, ZPl, gZ, ou_a]) x0 x1 (by decide) (by decide) (by show getA (A 3) x = 1; rw [val, if_neg (by omega), if_pos rfl]) (by show getA (A 3) (256 + x) = 2; rw [val, if_pos (by omega)]) (fun j p q r => ?_) (fun D1 D2 k4 k5 k6 k7 k8 l1 l2 sp1 sp2 p4 p5 p6 p7 p8 => ?_)
  · have ej := ix (u := 1) (c := j) (by decide) (by decide) p q
    exact zer _ (by omega) (by omega)
  refine ndN (u := 2) (f := 1) (LN_ou (LN_ou (LN_ou (LN_ou (LN_ou hA2 (by simp only [setA_len]; exact hA2 _)) (l1.trans A0l_3.symm)) (by simp only [setA_len]; exact hA2 _)) (by simp only [setA_len]; exact hA2 _)) (l2.trans A0l_3.symm)) (okS_i _) p4 p5 p6 p7 p8 (by decide) (by decide) (by decide) (by simp [d6, getA_set2, setA_len, ZPl, gZ, ou_a]) (by decide) (by decide) (by simp [d4, getA_set2, setA_len, ZPl, gZ, ou_a]) (by decide) (by decide) (by decide) (fun j p q => ?_) (fun D4 k4 k5 k6 k7 k8 l4 sp4 p4 p5 p6 p7 p8 => ?_)
  · have ej := ix (u := 2) (c := j) (by decide) (by decide) p q
    have := zer (2 * 256 + j) (by omega) (by omega)
    rw [gA] at this
    show ¬ 0 < getA D2 _
    rw [gA, SP_out sp2 _ (by omega) (by omega), SP_out sp1 _ (by omega) (by omega)]
    exact this
  rw [m8_59]
  simp [m8_0, m8_1u, m8_2, m8_3u, m8_5, m8_8, m8_11, m8_12, m8_15, m8_16, m8_17u, m8_17i, m8_17r, m8_17g, m8_18, m8_19, m8_22, m8_23, m8_25, m8_28, m8_29, m8_31, m8_34, m8_35, m8_38, m8_39, m8_40, m8_41, m8_42, m8_45, m8_46, m8_47, m8_48, m8_51, m8_54, m8_57, m8_58i, m8_60, m8_61, m8_64, m8_65, m8_67, m8_70, m8_71, m8_74, m8_75, m8_76u, m8_76i, m8_76r, m8_76g, m8_77, m8_80, m8_81, m8_84, m8_85, m8_87, m8_90, m8_93, m8_94, m8_97, m8_98, m8_99u, m8_99i, m8_99r, m8_99g, m8_101, m8_103, m8_106, m8_108, m8_110, m8_113, m8_114i, m8_116, m8_117, m8_120, m8_121, m8_122, m8_123, m8_124, m8_127, m8_129, m8_130, m8_131, m8_132, m8_133u, m8_133i, m8_133r, m8_133g, m8_137, m8_140, m8_143, m8_144, m8_147, m8_148, m8_150, m8_151u, m8_151i, m8_151r, m8_151g, m8_153, m8_154, m8_157, m8_159, m8_162, m8_163, m8_165, m8_166, m8_167u, m8_167i, m8_167r, m8_167g, m8_169, m8_170, m8_173, m8_175, m8_176u, m8_176i, m8_176r, m8_176g, m8_178, m8_180, m8_183, m8_185, m8_187, m8_190, m8_191, m8_194, m8_196, m8_198, m8_199, m8_200, m8_202, m8_205, m8_206, m8_209, m8_210, m8_212, m8_213, m8_216, m8_219, m8_220, m8_223, m8_225, m8_227, m8_228, m8_231, m8_234, m8_237, nb0, nb1, ou_a, Option.toList_some, Option.toList_none, List.nil_append, List.cons_append]
  refine hQ _ (by (repeat refine LN_ou ?_ (by first | exact l4.trans A0l_3.symm | exact l2.trans A0l_3.symm | exact l1.trans A0l_3.symm | (simp only [setA_len]; exact h _))); exact h) ?_ ?_ ?_
  · exact tabE x0 x1 (D0 := A 3) (fun k => by rw [d3, D0E x0 x1]) sp1 sp2 sp4
  · simp [d5, or12, getA_set2, setA_len, ZPl, gZ, ou_a]
  · intro j hj
    simp only [ou_a, if_neg (show ¬ j = 3 by omega), if_neg (show ¬ j = 4 by omega), if_neg (show ¬ j = 5 by omega), if_neg (show ¬ j = 6 by omega)]
set_option maxRecDepth 1000000 in
set_option maxHeartbeats 20000000 in
theorem cpN {x y : Int32} (x0 : 0 ≤ x.toInt) (x1 : x.toInt < 256) (y0 : 0 ≤ y.toInt) (y1 : y.toInt < 256) (xy : x.toInt ≠ y.toInt) (h : LN A) (a0 : A 0 = setA (setA (setA (A0 0) 0 x) 1 y) 2 y) (a1 : A 1 = setA (setA (A0 1) 0 0) 1 2) (a2 : A 2 = setA (setA (A0 2) 0 2) 1 1) (a3 : A 3 = RP) (a4 : A 4 = ZP) (a5 : A 5 = ZP) (a6 : A 6 = ZP) (h1 : s 1 = 0) (h4 : s 4 = 0) (h2 : s 2 = 2)
    (hQ : ∀ s' A', LN A' → (∀ i, i ≠ 1 → i ≠ 5 → i ≠ 6 → s' i = s i) → s' 1 = 1 → s' 6 = 0 → TBN x.toInt.toNat y.toInt.toNat (A' 3) → (getA (A' 5) 0 = 0 ∧ getA (A' 5) 1 = 0 ∧ getA (A' 5) 2 = 3 ∧ getA (A' 5) 3 = 2) → (∀ j, j < 3 ∨ 6 < j → A' j = A j) → Q (some (.int 0)) (put 0 [] s' A' [])) : M4 0 [.val (.ref 0)] [] (put 0 [] s A []) Q := by
  have hB : LN (ou (ou A 3 (setA (setA (setA RP x 1) (256 + y) 2) y 3)) 5 (setA (setA ZP 2 1) 3 2)) := LN_ou (LN_ou h (by simp only [setA_len]; exact RPl.trans A0l_3.symm)) (by simp only [setA_len]; exact ZPl.trans A0l_5.symm)
  have fr : ∀ j, j < 3 ∨ 6 < j → (ou (ou A 3 (setA (setA (setA RP x 1) (256 + y) 2) y 3)) 5 (setA (setA ZP 2 1) 3 2)) j = A j := fun j hj => by
    simp only [ou_a, if_neg (show ¬ j = 3 by omega), if_neg (show ¬ j = 5 by omega)]
  simp [h1, h4, h2, m4_0, m4_1, m4_4, m4_7, m4_8, m4_9, m4_10, m4_13, m4_16, m4_17, m4_18, m4_19, m4_22, m4_25, m4_27, m4_28, m4_29, m4_32, m4_33, m4_36, m4_37, m4_38, m4_41, m4_42, m4_43, m4_46, m4_47, nb0, nb1, ou_a, Option.toList_some, Option.toList_none, List.nil_append, List.cons_append]
  refine trN x0 x1 y0 y1 xy h a0 a1 a2 a3 a4 a5 a6 h2 ?_
  simp [m4_0, m4_1, m4_4, m4_7, m4_8, m4_9, m4_10, m4_13, m4_16, m4_17, m4_18, m4_19, m4_22, m4_25, m4_27, m4_28, m4_29, m4_32, m4_33, m4_36, m4_37, m4_38, m4_41, m4_42, m4_43, m4_46, m4_47, nb0, nb1, ou_a, Option.toList_some, Option.toList_none, List.nil_append, List.cons_append]
  by_cases g : x.toInt < y.toInt
  · refine auA x0 x1 y0 y1 g hB rfl a4 rfl a6 (fun A' hA t m f => ?_)
    simp [m4_0, m4_1, m4_4, m4_7, m4_8, m4_9, m4_10, m4_13, m4_16, m4_17, m4_18, m4_19, m4_22, m4_25, m4_27, m4_28, m4_29, m4_32, m4_33, m4_36, m4_37, m4_38, m4_41, m4_42, m4_43, m4_46, m4_47, nb0, nb1, ou_a, Option.toList_some, Option.toList_none, List.nil_append, List.cons_append]
    exact hQ _ A' hA (fun i p q r => by simp only [ou_a, if_neg p, if_neg q, if_neg r]) rfl rfl t m (fun j hj => (f j hj).trans (fr j hj))
  · refine auB x0 x1 y0 y1 (by omega) hB rfl a4 rfl a6 (fun A' hA t m f => ?_)
    simp [m4_0, m4_1, m4_4, m4_7, m4_8, m4_9, m4_10, m4_13, m4_16, m4_17, m4_18, m4_19, m4_22, m4_25, m4_27, m4_28, m4_29, m4_32, m4_33, m4_36, m4_37, m4_38, m4_41, m4_42, m4_43, m4_46, m4_47, nb0, nb1, ou_a, Option.toList_some, Option.toList_none, List.nil_append, List.cons_append]
    exact hQ _ A' hA (fun i p q r => by simp only [ou_a, if_neg p, if_neg q, if_neg r]) rfl rfl t m (fun j hj => (f j hj).trans (fr j hj))
theorem cpE {x : Int32} (x0 : 0 ≤ x.toInt) (x1 : x.toInt < 256) (h : LN A) (a0 : A 0 = setA (setA (setA (A0 0) 0 x) 1 x) 2 x) (a1 : A 1 = setA (setA (A0 1) 0 0) 1 2) (a2 : A 2 = setA (setA (A0 2) 0 2) 1 1) (a3 : A 3 = RP) (a4 : A 4 = ZP) (a5 : A 5 = ZP) (a6 : A 6 = ZP) (h1 : s 1 = 0) (h4 : s 4 = 0) (h2 : s 2 = 2)
    (hQ : ∀ s' A', LN A' → (∀ i, i ≠ 1 → i ≠ 5 → i ≠ 6 → s' i = s i) → s' 1 = 1 → s' 6 = 0 → TBE x.toInt.toNat (A' 3) → (getA (A' 5) 0 = 0 ∧ getA (A' 5) 1 = 2 ∧ getA (A' 5) 2 = 3) → (∀ j, j < 3 ∨ 6 < j → A' j = A j) → Q (some (.int 0)) (put 0 [] s' A' [])) : M4 0 [.val (.ref 0)] [] (put 0 [] s A []) Q := by
  have hB : LN (ou (ou A 3 (setA (setA RP x 1) (256 + x) 2)) 5 (setA (setA ZP 2 1) 1 2)) := LN_ou (LN_ou h (by simp only [setA_len]; exact RPl.trans A0l_3.symm)) (by simp only [setA_len]; exact ZPl.trans A0l_5.symm)
  have fr : ∀ j, j < 3 ∨ 6 < j → (ou (ou A 3 (setA (setA RP x 1) (256 + x) 2)) 5 (setA (setA ZP 2 1) 1 2)) j = A j := fun j hj => by
    simp only [ou_a, if_neg (show ¬ j = 3 by omega), if_neg (show ¬ j = 5 by omega)]
  simp [h1, h4, h2, m4_0, m4_1, m4_4, m4_7, m4_8, m4_9, m4_10, m4_13, m4_16, m4_17, m4_18, m4_19, m4_22, m4_25, m4_27, m4_28, m4_29, m4_32, m4_33, m4_36, m4_37, m4_38, m4_41, m4_42, m4_43, m4_46, m4_47, nb0, nb1, ou_a, Option.toList_some, Option.toList_none, List.nil_append, List.cons_append]
  refine trE x0 x1 h a0 a1 a2 a3 a4 a5 a6 h2 ?_
  simp [m4_0, m4_1, m4_4, m4_7, m4_8, m4_9, m4_10, m4_13, m4_16, m4_17, m4_18, m4_19, m4_22, m4_25, m4_27, m4_28, m4_29, m4_32, m4_33, m4_36, m4_37, m4_38, m4_41, m4_42, m4_43, m4_46, m4_47, nb0, nb1, ou_a, Option.toList_some, Option.toList_none, List.nil_append, List.cons_append]
  refine auE x0 x1 hB rfl a4 rfl a6 (fun A' hA t m f => ?_)
  simp [m4_0, m4_1, m4_4, m4_7, m4_8, m4_9, m4_10, m4_13, m4_16, m4_17, m4_18, m4_19, m4_22, m4_25, m4_27, m4_28, m4_29, m4_32, m4_33, m4_36, m4_37, m4_38, m4_41, m4_42, m4_43, m4_46, m4_47, nb0, nb1, ou_a, Option.toList_some, Option.toList_none, List.nil_append, List.cons_append]
  exact hQ _ A' hA (fun i p q r => by simp only [ou_a, if_neg p, if_neg q, if_neg r]) rfl rfl t m (fun j hj => (f j hj).trans (fr j hj))
end Scan
theorem by255 (i : Int32) : 0 ≤ (i &&& 255).toInt ∧ (i &&& 255).toInt < 256 := by
  have b := and_bd i 255 (by decide)
  have c : (i &&& 255).toInt ≤ 255 := b.2
  exact ⟨b.1, by omega⟩
theorem by_a {b : Int32} (h : 0 ≤ b.toInt ∧ b.toInt < 256) : ¬ b < 0 := by rw [nn_i]; exact h.1
theorem by_b {b : Int32} (h : 0 ≤ b.toInt ∧ b.toInt < 256) : ¬ 255 < b := by
  rw [lt_i, show (255 : Int32).toInt = 255 from rfl]; omega
theorem l7 : ((A0 7).length : Int) = (256 : Int32).toInt := by rw [A0l_7]; rfl
theorem l8 : ((A0 8).length : Int) = (256 : Int32).toInt := by rw [A0l_8]; rfl
theorem l9 : ((A0 9).length : Int) = (16 : Int32).toInt := by rw [A0l_9]; rfl
theorem l10 : ((A0 10).length : Int) = (64 : Int32).toInt := by rw [A0l_10]; rfl
theorem l11 : ((A0 11).length : Int) = (64 : Int32).toInt := by rw [A0l_11]; rfl
theorem iz {k : Nat} {j n : Int32} (hk : ((A0 k).length : Int) = n.toInt) (h0 : ¬ j < 0) (h1 : j < n) : inB j (A0 k) := in_lt (A := A0) (fun _ => rfl) hk h0 h1
theorem a03 : A0 3 = RP := rfl
theorem a04 : A0 4 = ZP := rfl
theorem a05 : A0 5 = ZP := rfl
theorem a06 : A0 6 = ZP := rfl
theorem la0 : (0 : Int32) &&& 31 = 0 := by decide
theorem la1 : (1 : Int32) &&& 31 = 1 := by decide
theorem la2 : (2 : Int32) >>> (0 : Int32) = 2 := by decide
theorem la3 : (2 : Int32) >>> (1 : Int32) = 1 := by decide
theorem la4 : (3 : Int32) >>> (0 : Int32) = 3 := by decide
theorem la5 : (3 : Int32) >>> (1 : Int32) = 1 := by decide
theorem la6 : (2 : Int32) &&& 1 = 0 := by decide
theorem la7 : (1 : Int32) &&& 1 = 1 := by decide
theorem la8 : (3 : Int32) &&& 1 = 1 := by decide
section Tail
variable {Q : Option Value → AHeap → Prop} {s : Nat → Int32} {A : Nat → List Int32}
theorem bx (hL : LN A) {b : Int32} (c : Int32) (b0 : 0 ≤ b.toInt) (b1 : b.toInt < 256) (c0 : 0 ≤ c.toInt) (c1 : c.toInt ≤ 768) : ¬ c + b < 0 ∧ c + b < 16640 ∧ inB (c + b) (A 3) ∧ getA (A 3) (c + b) = (A 3).getD (c.toInt.toNat + b.toInt.toNat) 0 := by
  have e : (c + b).toInt = c.toInt + b.toInt := add_i (by omega) (by omega)
  have p : ¬ c + b < 0 := by rw [nn_i]; omega
  have q : c + b < 16640 := by rw [lt_i, i_16640]; omega
  refine ⟨p, q, in_lt hL l3 p q, ?_⟩
  rw [gA, e, show (c.toInt + b.toInt).toNat = c.toInt.toNat + b.toInt.toNat by omega]
abbrev FB (A : Nat → List Int32) (b : Int32) : Prop := (¬ b < 0 ∧ b < 16640 ∧ inB b (A 3)) ∧ (¬ 256 + b < 0 ∧ 256 + b < 16640 ∧ inB (256 + b) (A 3)) ∧ (¬ 512 + b < 0 ∧ 512 + b < 16640 ∧ inB (512 + b) (A 3)) ∧ (¬ 768 + b < 0 ∧ 768 + b < 16640 ∧ inB (768 + b) (A 3))
theorem fb (hL : LN A) {b : Int32} (b0 : 0 ≤ b.toInt) (b1 : b.toInt < 256) : FB A b := by
  have h0 := bx hL 0 b0 b1 (by decide) (by decide)
  rw [Int32.zero_add] at h0
  have h1 := bx hL 256 b0 b1 (by decide) (by decide)
  have h2 := bx hL 512 b0 b1 (by decide) (by decide)
  have h3 := bx hL 768 b0 b1 (by decide) (by decide)
  exact ⟨⟨h0.1, h0.2.1, h0.2.2.1⟩, ⟨h1.1, h1.2.1, h1.2.2.1⟩, ⟨h2.1, h2.2.1, h2.2.2.1⟩, ⟨h3.1, h3.2.1, h3.2.2.1⟩⟩
theorem byN (hL : LN A) {X Y : Nat} (t : TBN X Y (A 3)) {b v0 v1 : Int32} (b0 : 0 ≤ b.toInt) (b1 : b.toInt < 256) (e0 : (if b.toInt.toNat = Y then 3 else if b.toInt.toNat = X then 1 else 0 : Int32) = v0) (e1 : (if b.toInt.toNat = Y then 2 else if b.toInt.toNat = X then 1 else 0 : Int32) = v1) :
    FB A b ∧ getA (A 3) b = v0 ∧ getA (A 3) (256 + b) = v1 ∧ getA (A 3) (512 + b) = v0 ∧ getA (A 3) (768 + b) = v0 := by
  have h1 := bx hL 256 b0 b1 (by decide) (by decide)
  have h2 := bx hL 512 b0 b1 (by decide) (by decide)
  have h3 := bx hL 768 b0 b1 (by decide) (by decide)
  have z := t b.toInt.toNat (by omega)
  refine ⟨fb hL b0 b1, ?_, ?_, ?_, ?_⟩
  · rw [gA, z.1, e0]
  · exact (h1.2.2.2.trans z.2.1).trans e1
  · exact (h2.2.2.2.trans z.2.2.1).trans e0
  · exact (h3.2.2.2.trans z.2.2.2).trans e0
theorem byE (hL : LN A) {X : Nat} (t : TBE X (A 3)) {b v0 v1 : Int32} (b0 : 0 ≤ b.toInt) (b1 : b.toInt < 256) (e0 : (if b.toInt.toNat = X then 1 else 0 : Int32) = v0) (e1 : (if b.toInt.toNat = X then 2 else 0 : Int32) = v1) :
    FB A b ∧ getA (A 3) b = v0 ∧ getA (A 3) (256 + b) = v1 ∧ getA (A 3) (512 + b) = v1 := by
  have h1 := bx hL 256 b0 b1 (by decide) (by decide)
  have h2 := bx hL 512 b0 b1 (by decide) (by decide)
  have z := t b.toInt.toNat (by omega)
  refine ⟨fb hL b0 b1, ?_, ?_, ?_⟩
  · rw [gA, z.1, e0]
  · exact (h1.2.2.2.trans z.2.1).trans e1
  · exact (h2.2.2.2.trans z.2.2).trans e1
theorem tn_ne {a b : Int32} (a0 : 0 ≤ a.toInt) (b0 : 0 ≤ b.toInt) (h : ¬ a = b) : ¬ a.toInt.toNat = b.toInt.toNat := fun q => h (Int32.toInt_inj.mp (by omega))
abbrev OT (A : Nat → List Int32) (a : Int32) : Prop := FB A a ∧ getA (A 3) a = 0 ∧ getA (A 3) (256 + a) = 0 ∧ getA (A 3) (512 + a) = 0
theorem clN (hL : LN A) {x y a : Int32} (t : TBN x.toInt.toNat y.toInt.toNat (A 3)) (x0 : 0 ≤ x.toInt) (y0 : 0 ≤ y.toInt) (a0 : 0 ≤ a.toInt) (a1 : a.toInt < 256) : a = x ∨ a = y ∨ (¬ a = x ∧ ¬ a = y ∧ OT A a ∧ getA (A 3) (768 + a) = 0) := by
  by_cases p : a = x
  · exact Or.inl p
  by_cases q : a = y
  · exact Or.inr (Or.inl q)
  have p' := tn_ne a0 x0 p
  have q' := tn_ne a0 y0 q
  have h := byN hL t a0 a1 (v0 := 0) (v1 := 0) (by rw [if_neg q', if_neg p']) (by rw [if_neg q', if_neg p'])
  exact Or.inr (Or.inr ⟨p, q, ⟨h.1, h.2.1, h.2.2.1, h.2.2.2.1⟩, h.2.2.2.2⟩)
theorem clE (hL : LN A) {x a : Int32} (t : TBE x.toInt.toNat (A 3)) (x0 : 0 ≤ x.toInt) (a0 : 0 ≤ a.toInt) (a1 : a.toInt < 256) : a = x ∨ (¬ a = x ∧ OT A a) := by
  by_cases p : a = x
  · exact Or.inl p
  have p' := tn_ne a0 x0 p
  have h := byE hL t a0 a1 (v0 := 0) (v1 := 0) (by rw [if_neg p']) (by rw [if_neg p'])
  exact Or.inr ⟨p, h⟩
theorem z7_0 : inB 0 (A0 7) := iz l7 (by decide) (by decide)
theorem z7_1 : inB 1 (A0 7) := iz l7 (by decide) (by decide)
theorem z7_2 : inB 2 (A0 7) := iz l7 (by decide) (by decide)
theorem z7_3 : inB 3 (A0 7) := iz l7 (by decide) (by decide)
theorem z7_4 : inB 4 (A0 7) := iz l7 (by decide) (by decide)
theorem z8_0 : inB 0 (A0 8) := iz l8 (by decide) (by decide)
theorem z8_1 : inB 1 (A0 8) := iz l8 (by decide) (by decide)
theorem z8_2 : inB 2 (A0 8) := iz l8 (by decide) (by decide)
theorem z8_3 : inB 3 (A0 8) := iz l8 (by decide) (by decide)
theorem z9_0 : inB 0 (A0 9) := iz l9 (by decide) (by decide)
theorem z9_1 : inB 1 (A0 9) := iz l9 (by decide) (by decide)
theorem z10_0 : inB 0 (A0 10) := iz l10 (by decide) (by decide)
theorem z10_1 : inB 1 (A0 10) := iz l10 (by decide) (by decide)
theorem z10_2 : inB 2 (A0 10) := iz l10 (by decide) (by decide)
theorem z10_3 : inB 3 (A0 10) := iz l10 (by decide) (by decide)
theorem z10_4 : inB 4 (A0 10) := iz l10 (by decide) (by decide)
theorem z10_5 : inB 5 (A0 10) := iz l10 (by decide) (by decide)
theorem z10_6 : inB 6 (A0 10) := iz l10 (by decide) (by decide)
theorem z10_7 : inB 7 (A0 10) := iz l10 (by decide) (by decide)
theorem z10_8 : inB 8 (A0 10) := iz l10 (by decide) (by decide)
theorem z11_0 : inB 0 (A0 11) := iz l11 (by decide) (by decide)
theorem z11_1 : inB 1 (A0 11) := iz l11 (by decide) (by decide)
theorem z11_2 : inB 2 (A0 11) := iz l11 (by decide) (by decide)
theorem z11_3 : inB 3 (A0 11) := iz l11 (by decide) (by decide)
theorem z11_4 : inB 4 (A0 11) := iz l11 (by decide) (by decide)
theorem z11_5 : inB 5 (A0 11) := iz l11 (by decide) (by decide)
theorem z11_6 : inB 6 (A0 11) := iz l11 (by decide) (by decide)
theorem z11_7 : inB 7 (A0 11) := iz l11 (by decide) (by decide)
theorem z11_8 : inB 8 (A0 11) := iz l11 (by decide) (by decide)
theorem wm (hL : LN A) : inB 0 (A 5) ∧ inB 1 (A 5) ∧ inB 2 (A 5) ∧ inB 3 (A 5) := ⟨in_lt hL l5 (by decide) (by decide), in_lt hL l5 (by decide) (by decide), in_lt hL l5 (by decide) (by decide), in_lt hL l5 (by decide) (by decide)⟩
set_option maxRecDepth 1000000 in
set_option maxHeartbeats 20000000 in
theorem tlN {x y a0 a1 a2 a3 i0 i1 i2 i3 i4 i5 : Int32} (x0 : 0 ≤ x.toInt) (x1 : x.toInt < 256) (y0 : 0 ≤ y.toInt) (y1 : y.toInt < 256) (r0 : 0 ≤ a0.toInt ∧ a0.toInt < 256) (r1 : 0 ≤ a1.toInt ∧ a1.toInt < 256) (r2 : 0 ≤ a2.toInt ∧ a2.toInt < 256) (r3 : 0 ≤ a3.toInt ∧ a3.toInt < 256) (xy : ¬ x = y) (hL : LN A) (e0 : s 0 = 8) (e1 : s 1 = 1) (e2 : s 2 = 2) (e6 : s 6 = 0) (e7 : s 7 = 0) (e8 : s 8 = 0) (e13 : s 13 = 0) (e16 : s 16 = 0) (d7 : A 7 = A0 7) (d8 : A 8 = A0 8) (d9 : A 9 = A0 9) (d10 : A 10 = A0 10) (d11 : A 11 = A0 11) (t : TBN x.toInt.toNat y.toInt.toNat (A 3)) (w0 : getA (A 5) 0 = 0 ∧ getA (A 5) 1 = 0 ∧ getA (A 5) 2 = 3 ∧ getA (A 5) 3 = 2) (hQ : ∀ s' A', LN A' → Q (some (.int 1)) (put 0 [] s' A' [])) : M22 117 [.val (.int i0), .val (.int i1), .val (.int i2), .val (.int i3), .val (.int i4), .val (.int i5), .val (.int x), .val (.int y), .val (.int a0), .val (.int a1), .val (.int a2), .val (.int a3), .val (.ref 0), .unset, .unset, .unset, .unset] [.int 0] (put 0 [] s A []) Q := by
  have w1 := wm hL
  have w2 : ¬ y = x := fun q => xy q.symm
  have nxy := tn_ne x0 y0 xy
  have fx := byN hL t x0 x1 (v0 := 1) (v1 := 1) (by rw [if_neg nxy, if_pos rfl]) (by rw [if_neg nxy, if_pos rfl])
  have fy := byN hL t y0 y1 (v0 := 3) (v1 := 2) (by rw [if_pos rfl]) (by rw [if_pos rfl])
  simp (maxSteps := 10000000) [by_a r0, by_b r0, by_a r1, by_b r1, by_a r2, by_b r2, by_a r3, by_b r3, e0, e1, e2, e6, e7, e8, e13, e16, d7, d8, d9, d10, d11, z7_0, z7_1, z7_2, z7_3, z7_4, z8_0, z8_1, z8_2, z8_3, z9_0, z9_1, z10_0, z10_1, z10_2, z10_3, z10_4, z10_5, z10_6, z10_7, z10_8, z11_0, z11_1, z11_2, z11_3, z11_4, z11_5, z11_6, z11_7, z11_8, inB_set, getA_set2, setA_len, A0g_7, A0g_8, A0g_9, A0g_10, A0g_11, A0l_7, A0l_8, A0l_9, A0l_10, A0l_11, ou_same, ou_comm, setA_same, m22_117, m22_120, m22_121, m22_122, m22_124, m22_125, m22_128, m22_131, m22_132, m22_133, m22_135, m22_137, m22_140, m22_143, m22_144, m22_145, m22_147, m22_149, m22_152, m22_155, m22_156, m22_157, m22_159, m22_162, m22_165, m22_166, m22_167, m22_169, m22_170, m22_173, m22_174, m22_177, m22_178, m22_179, m22_181, m22_182, m22_185, m22_188, m22_189, m22_190, m22_192, m22_194, m22_197, m22_200, m22_201, m22_202, m22_204, m22_206, m22_209, m22_212, m22_213, m22_214, m22_216, m22_219, m22_220, m22_223, m22_224, m22_225, m22_227, m22_228, m22_231, m22_234, m22_235, m2_0, m2_1, m2_4, m2_5, m2_8, m2_11, m2_12, m2_15, m2_16, m9_0, m9_1, m9_4, m9_7, m9_8, m9_9, m9_10, m9_13, m9_16, m9_17, m9_18, m9_19, m9_20, m9_23, m9_26, m9_28, m9_29, m9_30, m9_31, m9_34, m9_35, m9_36, m9_39, m9_40, m9_41, m9_44, m9_45, m10_0, m10_1, m10_4, m10_5, m10_8, m10_11, m10_12, m10_15, m10_16, m11_0, m11_1, m11_4, m11_7, m11_8, m11_9, m11_10, m11_11, m11_14, m11_17, m11_19, m11_20, m11_21, m11_24, m11_26, m11_29, m11_31, m11_32, m11_33, m11_36, m11_37, m11_40, m11_41, m11_44, m11_47, m11_49, m11_50, m11_51, m11_54, m11_57, m11_59, m11_60, m11_61, m11_64, m11_65, m11_68, m11_69, m11_70, m11_71, m11_72, m11_75, m11_76, m11_77, m11_80, m11_81, m12_0, m12_1, m12_4, m12_7, m12_8, m12_9, m12_10, m12_13u, m12_14, m12_15u, m12_16, m12_17, m12_18, m12_21, m12_24, m12_25, m12_27, m12_30, m12_31, m12_32, m12_35, m12_36, m12_37, m12_38, m12_41, m12_42, m12_43, m12_44, m12_47, m12_50, m12_53, m12_54, m12_55, m12_58, m12_59, m12_60, m12_63, m12_64, m12_65, m12_68, m12_69, m12_72, m12_73, m12_76, m12_77, m12_78, m13_0, m13_1, m13_2, m13_5, m13_8, m13_9, m13_10, m13_13, m13_14, m13_15, m13_18, m13_19, m13_22, m13_23, m13_24, m13_25, m13_28, m13_29, m13_30, m13_33, m13_34, m13_35, m13_38, m13_41, m13_42, m13_43, m13_46, m13_47, m13_48, m13_51, m13_52, m13_53, m13_56, m13_57, m13_58, m13_59, m13_60, m13_63, m13_64, m13_67, m13_68, m13_69, m13_72, m13_73, m13_74, m13_77, m13_78, m13_79, m13_82, m13_83, m13_84, m13_85, m13_86, m13_89, m13_90, m13_91, m13_92, m13_93, m13_94, m13_97, m13_98, m13_99, m13_102, m14_0, m14_1u, m14_2, m14_3, m14_6, m14_9, m14_10, m14_13, m14_16, m14_19, m14_20, m14_23, m14_24, m14_27, m14_28, m14_31, m14_32, m14_33, m14_36u, m14_36i, m14_36r, m14_36g, m14_37, m14_38, m14_41, m14_42, m14_43u, m14_43i, m14_43r, m14_43g, m14_44, m14_45, m14_46, m14_47, m14_48, m14_51, m14_52, m14_53, m14_56, m14_57, m14_58, m14_61, m14_62, m14_63, m14_64, m14_67, m14_70, m14_73, m15_0, m15_1_0, m15_1_1, m15_1_2, m15_1_3, m15_1_4, m15_1_5, m15_1_6, m15_1_7, m15_1_8, m15_1_9, m15_1_10, m15_1_11, m15_1_12, m15_1_13, m15_1_14, m15_76, m15_77, m15_80, m15_81, m15_82, m15_85, m15_86, m15_87, m15_90, m15_91, m15_92, m15_95, m15_96, m15_97, m15_100, m15_101, m15_102, m15_105, m15_106, m15_107, m15_110, m15_111, m15_112, m15_115, m15_116, m15_117, m15_120, m15_121, m15_122, m15_123, m15_130, m15_131, m15_132, m15_139, m15_140, m15_143, m15_146, m15_147, m15_150, m15_153, m15_154, m15_155, m15_156, m15_159, m15_162, m15_163, m15_166, m15_169, m15_170, m15_171, m15_172, m15_175, m15_176, m15_177, m15_180, m15_181, m15_182, nb0, nb1, ou_a, Option.toList_some, Option.toList_none, List.nil_append, List.cons_append]
  rcases clN hL t x0 y0 r0.1 r0.2 with c0 | c0 | c0 <;> rcases clN hL t x0 y0 r1.1 r1.2 with c1 | c1 | c1 <;> rcases clN hL t x0 y0 r2.1 r2.2 with c2 | c2 | c2 <;> rcases clN hL t x0 y0 r3.1 r3.2 with c3 | c3 | c3
  all_goals
    simp (maxSteps := 10000000) [c0, c1, c2, c3, xy, fx, fy, w0, w1, w2, e0, e1, e2, e6, e7, e8, e13, e16, d7, d8, d9, d10, d11, z7_0, z7_1, z7_2, z7_3, z7_4, z8_0, z8_1, z8_2, z8_3, z9_0, z9_1, z10_0, z10_1, z10_2, z10_3, z10_4, z10_5, z10_6, z10_7, z10_8, z11_0, z11_1, z11_2, z11_3, z11_4, z11_5, z11_6, z11_7, z11_8, inB_set, getA_set2, setA_len, A0g_7, A0g_8, A0g_9, A0g_10, A0g_11, A0l_7, A0l_8, A0l_9, A0l_10, A0l_11, ou_same, ou_comm, setA_same, la0, la1, la2, la3, la4, la5, la6, la7, la8, m22_117, m22_120, m22_121, m22_122, m22_124, m22_125, m22_128, m22_131, m22_132, m22_133, m22_135, m22_137, m22_140, m22_143, m22_144, m22_145, m22_147, m22_149, m22_152, m22_155, m22_156, m22_157, m22_159, m22_162, m22_165, m22_166, m22_167, m22_169, m22_170, m22_173, m22_174, m22_177, m22_178, m22_179, m22_181, m22_182, m22_185, m22_188, m22_189, m22_190, m22_192, m22_194, m22_197, m22_200, m22_201, m22_202, m22_204, m22_206, m22_209, m22_212, m22_213, m22_214, m22_216, m22_219, m22_220, m22_223, m22_224, m22_225, m22_227, m22_228, m22_231, m22_234, m22_235, m22_236, m22_237u, m22_239, m22_240u, m22_242, m22_244, m22_245, m22_248, m22_250, m22_252, m22_254, m22_256, m22_258, m22_261u, m22_261i, m22_261r, m22_261g, m22_263, m22_265, m22_266, m22_269, m22_271, m22_272, m22_273, m22_275, m22_277, m22_279, m22_281, m22_284u, m22_284i, m22_284r, m22_284g, m22_286, m22_288, m22_290, m22_293, m22_295, m22_297, m22_300, m22_302, m22_304, m22_307, m22_310, m22_311, m22_312, m22_314, m22_316, m22_319, m22_321, m22_324, m22_325, m22_326, m22_329, m22_331, m22_333, m22_336, m22_338, m22_340, m22_343, m22_344, m22_347, m22_348, m22_349, m22_351, m22_353, m22_356, m22_358, m22_361, m22_362, m22_363, m22_366, m22_369, m22_372, m22_374, m22_375, m22_378, m22_380, m22_383, m22_384, m22_385, m22_387, m22_389, m22_392, m22_393, m22_396, m22_397, m22_398, m22_399, m12_0, m12_1, m12_4, m12_7, m12_8, m12_9, m12_10, m12_13u, m12_14, m12_15u, m12_16, m12_17, m12_18, m12_21, m12_24, m12_25, m12_27, m12_30, m12_31, m12_32, m12_35, m12_36, m12_37, m12_38, m12_41, m12_42, m12_43, m12_44, m12_47, m12_50, m12_53, m12_54, m12_55, m12_58, m12_59, m12_60, m12_63, m12_64, m12_65, m12_68, m12_69, m12_72, m12_73, m12_76, m12_77, m12_78, m14_0, m14_1u, m14_2, m14_3, m14_6, m14_9, m14_10, m14_13, m14_16, m14_19, m14_20, m14_23, m14_24, m14_27, m14_28, m14_31, m14_32, m14_33, m14_36u, m14_36i, m14_36r, m14_36g, m14_37, m14_38, m14_41, m14_42, m14_43u, m14_43i, m14_43r, m14_43g, m14_44, m14_45, m14_46, m14_47, m14_48, m14_51, m14_52, m14_53, m14_56, m14_57, m14_58, m14_61, m14_62, m14_63, m14_64, m14_67, m14_70, m14_73, m15_0, m15_1_0, m15_1_1, m15_1_2, m15_1_3, m15_1_4, m15_1_5, m15_1_6, m15_1_7, m15_1_8, m15_1_9, m15_1_10, m15_1_11, m15_1_12, m15_1_13, m15_1_14, m15_76, m15_77, m15_80, m15_81, m15_82, m15_85, m15_86, m15_87, m15_90, m15_91, m15_92, m15_95, m15_96, m15_97, m15_100, m15_101, m15_102, m15_105, m15_106, m15_107, m15_110, m15_111, m15_112, m15_115, m15_116, m15_117, m15_120, m15_121, m15_122, m15_123, m15_130, m15_131, m15_132, m15_139, m15_140, m15_143, m15_146, m15_147, m15_150, m15_153, m15_154, m15_155, m15_156, m15_159, m15_162, m15_163, m15_166, m15_169, m15_170, m15_171, m15_172, m15_175, m15_176, m15_177, m15_180, m15_181, m15_182, m16_0, m16_1, m16_4, m16_7, m16_8, m16_9, m16_10u, m16_11, m16_12, m16_15, m16_16, m16_19, m16_22, m16_23, m16_24, m16_27, m16_28, m16_29, m16_32, m16_33, m16_34u, m16_36, m16_38, m16_41, m16_43, m16_45, m16_48, m16_49i, m16_51, m16_52, m16_54, m16_57, m16_58, m16_61, m16_63, m16_64u, m16_66, m16_68, m16_71, m16_72, m16_73u, m16_75, m16_77, m16_78, m16_81, m16_84, m16_86, m16_88, m16_91, m16_93, m16_95, m16_96, m16_97, m16_98, m16_101, m16_102, m16_104, m16_105, m16_108, m16_111, m16_114, m17_0, m17_1, m17_4, m17_7, m17_8, m17_11, m17_13, m17_16, m17_17, m17_20, m17_21, m17_24, m17_25, m17_26, m17_27, m17_30, m17_31, m17_34, m17_35, m17_36, m17_37, m17_38, m17_41, m17_42, m17_43, m17_46, m18_0, m18_1, m18_2, m18_5, m18_8, m18_9, m18_10, m18_11, m18_14, m18_15, m18_16, m19_0, m19_1, m19_4u, m19_5, m19_6, m19_8, m19_11, m19_13i, m19_14, m19_15, m19_18, m19_19, m19_20, m19_23, m19_24, m19_27, m19_28, m20_0, m20_1, m20_2, m20_5, m20_8, m20_9, m20_10, m20_11, m20_14, m20_15, m20_16, m21_0, m21_1, m21_4, m21_5, m21_6, m21_7, m21_8, m21_11, m21_12, m21_13, m21_14, m21_15, m21_18, m21_19, m21_20, m21_22, nb0, nb1, ou_a, Option.toList_some, Option.toList_none, List.nil_append, List.cons_append]
    exact hQ _ _ (by (repeat refine LN_ou ?_ (by simp only [setA_len])); exact hL)
set_option maxRecDepth 1000000 in
set_option maxHeartbeats 20000000 in
theorem tlE {x a0 a1 a2 a3 i0 i1 i2 i3 i4 i5 : Int32} (x0 : 0 ≤ x.toInt) (x1 : x.toInt < 256) (r0 : 0 ≤ a0.toInt ∧ a0.toInt < 256) (r1 : 0 ≤ a1.toInt ∧ a1.toInt < 256) (r2 : 0 ≤ a2.toInt ∧ a2.toInt < 256) (r3 : 0 ≤ a3.toInt ∧ a3.toInt < 256) (hL : LN A) (e0 : s 0 = 8) (e1 : s 1 = 1) (e2 : s 2 = 2) (e6 : s 6 = 0) (e7 : s 7 = 0) (e8 : s 8 = 0) (e13 : s 13 = 0) (e16 : s 16 = 0) (d7 : A 7 = A0 7) (d8 : A 8 = A0 8) (d9 : A 9 = A0 9) (d10 : A 10 = A0 10) (d11 : A 11 = A0 11) (t : TBE x.toInt.toNat (A 3)) (w0 : getA (A 5) 0 = 0 ∧ getA (A 5) 1 = 2 ∧ getA (A 5) 2 = 3) (hQ : ∀ s' A', LN A' → Q (some (.int 1)) (put 0 [] s' A' [])) : M22 117 [.val (.int i0), .val (.int i1), .val (.int i2), .val (.int i3), .val (.int i4), .val (.int i5), .val (.int x), .val (.int x), .val (.int a0), .val (.int a1), .val (.int a2), .val (.int a3), .val (.ref 0), .unset, .unset, .unset, .unset] [.int 0] (put 0 [] s A []) Q := by
  have w1 := wm hL
  have w2 : True := trivial
  have fx := byE hL t x0 x1 (v0 := 1) (v1 := 2) (by rw [if_pos rfl]) (by rw [if_pos rfl])
  simp (maxSteps := 10000000) [by_a r0, by_b r0, by_a r1, by_b r1, by_a r2, by_b r2, by_a r3, by_b r3, e0, e1, e2, e6, e7, e8, e13, e16, d7, d8, d9, d10, d11, z7_0, z7_1, z7_2, z7_3, z7_4, z8_0, z8_1, z8_2, z8_3, z9_0, z9_1, z10_0, z10_1, z10_2, z10_3, z10_4, z10_5, z10_6, z10_7, z10_8, z11_0, z11_1, z11_2, z11_3, z11_4, z11_5, z11_6, z11_7, z11_8, inB_set, getA_set2, setA_len, A0g_7, A0g_8, A0g_9, A0g_10, A0g_11, A0l_7, A0l_8, A0l_9, A0l_10, A0l_11, ou_same, ou_comm, setA_same, m22_117, m22_120, m22_121, m22_122, m22_124, m22_125, m22_128, m22_131, m22_132, m22_133, m22_135, m22_137, m22_140, m22_143, m22_144, m22_145, m22_147, m22_149, m22_152, m22_155, m22_156, m22_157, m22_159, m22_162, m22_165, m22_166, m22_167, m22_169, m22_170, m22_173, m22_174, m22_177, m22_178, m22_179, m22_181, m22_182, m22_185, m22_188, m22_189, m22_190, m22_192, m22_194, m22_197, m22_200, m22_201, m22_202, m22_204, m22_206, m22_209, m22_212, m22_213, m22_214, m22_216, m22_219, m22_220, m22_223, m22_224, m22_225, m22_227, m22_228, m22_231, m22_234, m22_235, m2_0, m2_1, m2_4, m2_5, m2_8, m2_11, m2_12, m2_15, m2_16, m9_0, m9_1, m9_4, m9_7, m9_8, m9_9, m9_10, m9_13, m9_16, m9_17, m9_18, m9_19, m9_20, m9_23, m9_26, m9_28, m9_29, m9_30, m9_31, m9_34, m9_35, m9_36, m9_39, m9_40, m9_41, m9_44, m9_45, m10_0, m10_1, m10_4, m10_5, m10_8, m10_11, m10_12, m10_15, m10_16, m11_0, m11_1, m11_4, m11_7, m11_8, m11_9, m11_10, m11_11, m11_14, m11_17, m11_19, m11_20, m11_21, m11_24, m11_26, m11_29, m11_31, m11_32, m11_33, m11_36, m11_37, m11_40, m11_41, m11_44, m11_47, m11_49, m11_50, m11_51, m11_54, m11_57, m11_59, m11_60, m11_61, m11_64, m11_65, m11_68, m11_69, m11_70, m11_71, m11_72, m11_75, m11_76, m11_77, m11_80, m11_81, m12_0, m12_1, m12_4, m12_7, m12_8, m12_9, m12_10, m12_13u, m12_14, m12_15u, m12_16, m12_17, m12_18, m12_21, m12_24, m12_25, m12_27, m12_30, m12_31, m12_32, m12_35, m12_36, m12_37, m12_38, m12_41, m12_42, m12_43, m12_44, m12_47, m12_50, m12_53, m12_54, m12_55, m12_58, m12_59, m12_60, m12_63, m12_64, m12_65, m12_68, m12_69, m12_72, m12_73, m12_76, m12_77, m12_78, m13_0, m13_1, m13_2, m13_5, m13_8, m13_9, m13_10, m13_13, m13_14, m13_15, m13_18, m13_19, m13_22, m13_23, m13_24, m13_25, m13_28, m13_29, m13_30, m13_33, m13_34, m13_35, m13_38, m13_41, m13_42, m13_43, m13_46, m13_47, m13_48, m13_51, m13_52, m13_53, m13_56, m13_57, m13_58, m13_59, m13_60, m13_63, m13_64, m13_67, m13_68, m13_69, m13_72, m13_73, m13_74, m13_77, m13_78, m13_79, m13_82, m13_83, m13_84, m13_85, m13_86, m13_89, m13_90, m13_91, m13_92, m13_93, m13_94, m13_97, m13_98, m13_99, m13_102, m14_0, m14_1u, m14_2, m14_3, m14_6, m14_9, m14_10, m14_13, m14_16, m14_19, m14_20, m14_23, m14_24, m14_27, m14_28, m14_31, m14_32, m14_33, m14_36u, m14_36i, m14_36r, m14_36g, m14_37, m14_38, m14_41, m14_42, m14_43u, m14_43i, m14_43r, m14_43g, m14_44, m14_45, m14_46, m14_47, m14_48, m14_51, m14_52, m14_53, m14_56, m14_57, m14_58, m14_61, m14_62, m14_63, m14_64, m14_67, m14_70, m14_73, m15_0, m15_1_0, m15_1_1, m15_1_2, m15_1_3, m15_1_4, m15_1_5, m15_1_6, m15_1_7, m15_1_8, m15_1_9, m15_1_10, m15_1_11, m15_1_12, m15_1_13, m15_1_14, m15_76, m15_77, m15_80, m15_81, m15_82, m15_85, m15_86, m15_87, m15_90, m15_91, m15_92, m15_95, m15_96, m15_97, m15_100, m15_101, m15_102, m15_105, m15_106, m15_107, m15_110, m15_111, m15_112, m15_115, m15_116, m15_117, m15_120, m15_121, m15_122, m15_123, m15_130, m15_131, m15_132, m15_139, m15_140, m15_143, m15_146, m15_147, m15_150, m15_153, m15_154, m15_155, m15_156, m15_159, m15_162, m15_163, m15_166, m15_169, m15_170, m15_171, m15_172, m15_175, m15_176, m15_177, m15_180, m15_181, m15_182, nb0, nb1, ou_a, Option.toList_some, Option.toList_none, List.nil_append, List.cons_append]
  rcases clE hL t x0 r0.1 r0.2 with c0 | c0 <;> rcases clE hL t x0 r1.1 r1.2 with c1 | c1 <;> rcases clE hL t x0 r2.1 r2.2 with c2 | c2 <;> rcases clE hL t x0 r3.1 r3.2 with c3 | c3
  all_goals
    simp (maxSteps := 10000000) [c0, c1, c2, c3, fx, w0, w1, w2, e0, e1, e2, e6, e7, e8, e13, e16, d7, d8, d9, d10, d11, z7_0, z7_1, z7_2, z7_3, z7_4, z8_0, z8_1, z8_2, z8_3, z9_0, z9_1, z10_0, z10_1, z10_2, z10_3, z10_4, z10_5, z10_6, z10_7, z10_8, z11_0, z11_1, z11_2, z11_3, z11_4, z11_5, z11_6, z11_7, z11_8, inB_set, getA_set2, setA_len, A0g_7, A0g_8, A0g_9, A0g_10, A0g_11, A0l_7, A0l_8, A0l_9, A0l_10, A0l_11, ou_same, ou_comm, setA_same, la0, la1, la2, la3, la4, la5, la6, la7, la8, m22_117, m22_120, m22_121, m22_122, m22_124, m22_125, m22_128, m22_131, m22_132, m22_133, m22_135, m22_137, m22_140, m22_143, m22_144, m22_145, m22_147, m22_149, m22_152, m22_155, m22_156, m22_157, m22_159, m22_162, m22_165, m22_166, m22_167, m22_169, m22_170, m22_173, m22_174, m22_177, m22_178, m22_179, m22_181, m22_182, m22_185, m22_188, m22_189, m22_190, m22_192, m22_194, m22_197, m22_200, m22_201, m22_202, m22_204, m22_206, m22_209, m22_212, m22_213, m22_214, m22_216, m22_219, m22_220, m22_223, m22_224, m22_225, m22_227, m22_228, m22_231, m22_234, m22_235, m22_236, m22_237u, m22_239, m22_240u, m22_242, m22_244, m22_245, m22_248, m22_250, m22_252, m22_254, m22_256, m22_258, m22_261u, m22_261i, m22_261r, m22_261g, m22_263, m22_265, m22_266, m22_269, m22_271, m22_272, m22_273, m22_275, m22_277, m22_279, m22_281, m22_284u, m22_284i, m22_284r, m22_284g, m22_286, m22_288, m22_290, m22_293, m22_295, m22_297, m22_300, m22_302, m22_304, m22_307, m22_310, m22_311, m22_312, m22_314, m22_316, m22_319, m22_321, m22_324, m22_325, m22_326, m22_329, m22_331, m22_333, m22_336, m22_338, m22_340, m22_343, m22_344, m22_347, m22_348, m22_349, m22_351, m22_353, m22_356, m22_358, m22_361, m22_362, m22_363, m22_366, m22_369, m22_372, m22_374, m22_375, m22_378, m22_380, m22_383, m22_384, m22_385, m22_387, m22_389, m22_392, m22_393, m22_396, m22_397, m22_398, m22_399, m12_0, m12_1, m12_4, m12_7, m12_8, m12_9, m12_10, m12_13u, m12_14, m12_15u, m12_16, m12_17, m12_18, m12_21, m12_24, m12_25, m12_27, m12_30, m12_31, m12_32, m12_35, m12_36, m12_37, m12_38, m12_41, m12_42, m12_43, m12_44, m12_47, m12_50, m12_53, m12_54, m12_55, m12_58, m12_59, m12_60, m12_63, m12_64, m12_65, m12_68, m12_69, m12_72, m12_73, m12_76, m12_77, m12_78, m14_0, m14_1u, m14_2, m14_3, m14_6, m14_9, m14_10, m14_13, m14_16, m14_19, m14_20, m14_23, m14_24, m14_27, m14_28, m14_31, m14_32, m14_33, m14_36u, m14_36i, m14_36r, m14_36g, m14_37, m14_38, m14_41, m14_42, m14_43u, m14_43i, m14_43r, m14_43g, m14_44, m14_45, m14_46, m14_47, m14_48, m14_51, m14_52, m14_53, m14_56, m14_57, m14_58, m14_61, m14_62, m14_63, m14_64, m14_67, m14_70, m14_73, m15_0, m15_1_0, m15_1_1, m15_1_2, m15_1_3, m15_1_4, m15_1_5, m15_1_6, m15_1_7, m15_1_8, m15_1_9, m15_1_10, m15_1_11, m15_1_12, m15_1_13, m15_1_14, m15_76, m15_77, m15_80, m15_81, m15_82, m15_85, m15_86, m15_87, m15_90, m15_91, m15_92, m15_95, m15_96, m15_97, m15_100, m15_101, m15_102, m15_105, m15_106, m15_107, m15_110, m15_111, m15_112, m15_115, m15_116, m15_117, m15_120, m15_121, m15_122, m15_123, m15_130, m15_131, m15_132, m15_139, m15_140, m15_143, m15_146, m15_147, m15_150, m15_153, m15_154, m15_155, m15_156, m15_159, m15_162, m15_163, m15_166, m15_169, m15_170, m15_171, m15_172, m15_175, m15_176, m15_177, m15_180, m15_181, m15_182, m16_0, m16_1, m16_4, m16_7, m16_8, m16_9, m16_10u, m16_11, m16_12, m16_15, m16_16, m16_19, m16_22, m16_23, m16_24, m16_27, m16_28, m16_29, m16_32, m16_33, m16_34u, m16_36, m16_38, m16_41, m16_43, m16_45, m16_48, m16_49i, m16_51, m16_52, m16_54, m16_57, m16_58, m16_61, m16_63, m16_64u, m16_66, m16_68, m16_71, m16_72, m16_73u, m16_75, m16_77, m16_78, m16_81, m16_84, m16_86, m16_88, m16_91, m16_93, m16_95, m16_96, m16_97, m16_98, m16_101, m16_102, m16_104, m16_105, m16_108, m16_111, m16_114, m17_0, m17_1, m17_4, m17_7, m17_8, m17_11, m17_13, m17_16, m17_17, m17_20, m17_21, m17_24, m17_25, m17_26, m17_27, m17_30, m17_31, m17_34, m17_35, m17_36, m17_37, m17_38, m17_41, m17_42, m17_43, m17_46, m18_0, m18_1, m18_2, m18_5, m18_8, m18_9, m18_10, m18_11, m18_14, m18_15, m18_16, m19_0, m19_1, m19_4u, m19_5, m19_6, m19_8, m19_11, m19_13i, m19_14, m19_15, m19_18, m19_19, m19_20, m19_23, m19_24, m19_27, m19_28, m20_0, m20_1, m20_2, m20_5, m20_8, m20_9, m20_10, m20_11, m20_14, m20_15, m20_16, m21_0, m21_1, m21_4, m21_5, m21_6, m21_7, m21_8, m21_11, m21_12, m21_13, m21_14, m21_15, m21_18, m21_19, m21_20, m21_22, nb0, nb1, ou_a, Option.toList_some, Option.toList_none, List.nil_append, List.cons_append]
    exact hQ _ _ (by (repeat refine LN_ou ?_ (by simp only [setA_len])); exact hL)
end Tail
theorem own_fin (s' : Nat → Int32) (A' : Nat → List Int32) (hl : ∀ i, (A' i).length = (A0 i).length) : (some (Value.int 1) : Option Value) = some (.int 1) ∧ (put 0 [] s' A' []).length - ([] : AHeap).length ≤ 40 ∧ tot tables_1 (put 0 [] s' A' []) - tot tables_1 [] ≤ 35328 := by
  refine ⟨rfl, ?_, ?_⟩ <;> simp only [hl, put_len, put_tot, pad_0, tot_nil, List.length_nil, List.length_cons, A0l_0, A0l_1, A0l_2, A0l_3, A0l_4, A0l_5, A0l_6, A0l_7, A0l_8, A0l_9, A0l_10, A0l_11] <;> omega
set_option maxRecDepth 1000000 in
set_option maxHeartbeats 20000000 in
theorem own_gen (i0 : Int32) (i1 : Int32) (i2 : Int32) (i3 : Int32) (i4 : Int32) (i5 : Int32) {Q : Option Value → AHeap → Prop} (hQ : ∀ s' A', LN A' → Q (some (.int 1)) (put 0 [] s' A' [])) : M22 0 [.val (.int i0), .val (.int i1), .val (.int i2), .val (.int i3), .val (.int i4), .val (.int i5), .unset, .unset, .unset, .unset, .unset, .unset, .unset, .unset, .unset, .unset, .unset] [] [] Q := by
  rw [m22_0, m22_1, m22_4, m22_5u, m22_7, m22_8, m22_11, m22_12u, m22_14, m22_15, m22_18, m22_19u, m22_21, m22_22, m22_25, m22_26u, m22_28, m22_30, m22_33, m22_34u, m22_36, m22_38, m22_41, m22_42u, m22_44, m22_47, m22_48, m22_50, own_ctor0 rfl]
  have b0 := by255 i0
  have b1 := by255 i1
  have c0 := by_a b0
  have c1 := by_a b1
  have e0 := by_b b0
  have e1 := by_b b1
  by_cases xy : i1 &&& 255 = i0 &&& 255
  · simp [c0, c1, e0, e1, xy, m0_0, m0_1, m0_4, m0_5, m0_12, m0_13, m0_20, m0_21, m0_28, m0_29, m0_37, m0_38, m0_45, m0_46, m0_53, m0_54, m0_61, m0_62, m0_70, m0_71, m0_79, m0_80, m0_87, m0_88, m0_95, m0_96, m0_103, m0_104u, m0_105, m0_106, m0_108, m0_111, m0_113i, m0_114, m0_115, m0_117, m0_120, m0_122i, m0_123, m0_124, m0_125, m0_128, m0_129, m0_130, m0_133, m0_134, m0_135, m0_138, m0_139, m0_140, m0_143, m0_144, m0_145, m0_148, m0_149, m0_150, m0_153, m0_154, m0_155, m0_158, m0_159, m0_160, m0_163, m0_164, m0_165, m0_168, m0_169, m0_170, m0_173, m0_174, m0_175, m0_178, m0_179, m0_180, m0_183, m0_184, m0_185, m0_188, m0_189, m0_190, m0_193, m0_194, m0_195, m0_198, m0_199, m0_200, m0_203, m0_204, m0_205, m0_208, m22_53u, m22_55, m22_57, m22_59, m22_62, m22_65, m22_66, m22_67, m22_69, m22_71, m22_74, m22_77, m22_78, m22_79, m22_81, m22_84, m22_87, m22_88, m22_89, m22_91, m22_93, m22_96, m22_99, m22_100, m22_101, m22_103, m22_106, m22_107, m22_110, m22_111, m22_112, m22_114, m1_0, m1_1, m1_4, m1_7, m1_8, m1_9, m1_10, m1_11, m1_14, m1_17, m1_19, m1_20, m1_21, m1_24, m1_26, m1_29, m1_31, m1_32, m1_33, m1_36, m1_38, m1_41, m1_43, m1_44, m1_45, m1_48, m1_49, m1_52, m1_53, m1_55, m1_58, m1_60, m1_61, m1_62, m1_65, m1_66, m1_69, m1_70u, m1_71, m1_72, m1_75, m1_76, m1_78, m1_81, m1_83, m1_84, m1_85, m1_88, m1_89, m1_90, m1_91, m1_92, m1_93, m1_96, m1_97, m1_98, m1_101, m1_102, m2_0, m2_1, m2_4, m2_5, m2_8, m2_11, m2_12, m2_15, m2_16, m3_0, m3_1, m3_4, m3_7, m3_8, m3_9, m3_10, m3_13, m3_16, m3_18, m3_19, m3_20, m3_23u, m3_24, m3_25, m3_28, m3_29, m3_31, m3_34, m3_36, m3_37, m3_38, m3_41, m3_42, m3_43, m3_46, m3_47, m3_48, m3_51, m3_52, m3_53, m3_56, m3_57, m3_58, m3_59, m3_62, m3_63, m3_66, m3_67, m3_70, m3_71, m3_72, m3_75, m3_76, m3_77, m3_78, m3_79, m3_82, m3_83, nb0, nb1, ou_a, Option.toList_some, Option.toList_none, List.nil_append, List.cons_append, ou_same, ou_comm, setA_same, getA_set2, setA_len, inB_iff, A0g_0, A0g_1, A0g_2, A0g_3, A0g_4, A0g_5, A0g_6, A0g_7, A0g_8, A0g_9, A0g_10, A0g_11, A0l_0, A0l_1, A0l_2, A0l_3, A0l_4, A0l_5, A0l_6, A0l_7, A0l_8, A0l_9, A0l_10, A0l_11]
    refine cpE (x := i0 &&& 255) b0.1 b0.2 (by (repeat refine LN_ou ?_ (by simp only [setA_len])); exact fun _ => rfl) (by simp [ou_a]) (by simp [ou_a]) (by simp [ou_a]) (by simp [ou_a, a03]) (by simp [ou_a, a04]) (by simp [ou_a, a05]) (by simp [ou_a, a06]) (by simp [ou_a]) (by simp [ou_a]) (by simp [ou_a]) (fun s' A' hL fr s1 s6 t m f => ?_)
    exact tlE b0.1 b0.2 (by255 i2) (by255 i3) (by255 i4) (by255 i5) hL ((fr 0 (by decide) (by decide) (by decide)).trans (by simp [ou_a])) s1 ((fr 2 (by decide) (by decide) (by decide)).trans (by simp [ou_a])) s6 ((fr 7 (by decide) (by decide) (by decide)).trans (by simp [ou_a])) ((fr 8 (by decide) (by decide) (by decide)).trans (by simp [ou_a])) ((fr 13 (by decide) (by decide) (by decide)).trans (by simp [ou_a])) ((fr 16 (by decide) (by decide) (by decide)).trans (by simp [ou_a])) ((f 7 (by decide)).trans (by simp [ou_a])) ((f 8 (by decide)).trans (by simp [ou_a])) ((f 9 (by decide)).trans (by simp [ou_a])) ((f 10 (by decide)).trans (by simp [ou_a])) ((f 11 (by decide)).trans (by simp [ou_a])) t m hQ
  · simp [c0, c1, e0, e1, m0_0, m0_1, m0_4, m0_5, m0_12, m0_13, m0_20, m0_21, m0_28, m0_29, m0_37, m0_38, m0_45, m0_46, m0_53, m0_54, m0_61, m0_62, m0_70, m0_71, m0_79, m0_80, m0_87, m0_88, m0_95, m0_96, m0_103, m0_104u, m0_105, m0_106, m0_108, m0_111, m0_113i, m0_114, m0_115, m0_117, m0_120, m0_122i, m0_123, m0_124, m0_125, m0_128, m0_129, m0_130, m0_133, m0_134, m0_135, m0_138, m0_139, m0_140, m0_143, m0_144, m0_145, m0_148, m0_149, m0_150, m0_153, m0_154, m0_155, m0_158, m0_159, m0_160, m0_163, m0_164, m0_165, m0_168, m0_169, m0_170, m0_173, m0_174, m0_175, m0_178, m0_179, m0_180, m0_183, m0_184, m0_185, m0_188, m0_189, m0_190, m0_193, m0_194, m0_195, m0_198, m0_199, m0_200, m0_203, m0_204, m0_205, m0_208, m22_53u, m22_55, m22_57, m22_59, m22_62, m22_65, m22_66, m22_67, m22_69, m22_71, m22_74, m22_77, m22_78, m22_79, m22_81, m22_84, m22_87, m22_88, m22_89, m22_91, m22_93, m22_96, m22_99, m22_100, m22_101, m22_103, m22_106, m22_107, m22_110, m22_111, m22_112, m22_114, m1_0, m1_1, m1_4, m1_7, m1_8, m1_9, m1_10, m1_11, m1_14, m1_17, m1_19, m1_20, m1_21, m1_24, m1_26, m1_29, m1_31, m1_32, m1_33, m1_36, m1_38, m1_41, m1_43, m1_44, m1_45, m1_48, m1_49, m1_52, m1_53, m1_55, m1_58, m1_60, m1_61, m1_62, m1_65, m1_66, m1_69, m1_70u, m1_71, m1_72, m1_75, m1_76, m1_78, m1_81, m1_83, m1_84, m1_85, m1_88, m1_89, m1_90, m1_91, m1_92, m1_93, m1_96, m1_97, m1_98, m1_101, m1_102, m2_0, m2_1, m2_4, m2_5, m2_8, m2_11, m2_12, m2_15, m2_16, m3_0, m3_1, m3_4, m3_7, m3_8, m3_9, m3_10, m3_13, m3_16, m3_18, m3_19, m3_20, m3_23u, m3_24, m3_25, m3_28, m3_29, m3_31, m3_34, m3_36, m3_37, m3_38, m3_41, m3_42, m3_43, m3_46, m3_47, m3_48, m3_51, m3_52, m3_53, m3_56, m3_57, m3_58, m3_59, m3_62, m3_63, m3_66, m3_67, m3_70, m3_71, m3_72, m3_75, m3_76, m3_77, m3_78, m3_79, m3_82, m3_83, nb0, nb1, ou_a, Option.toList_some, Option.toList_none, List.nil_append, List.cons_append, ou_same, ou_comm, setA_same, getA_set2, setA_len, inB_iff, A0g_0, A0g_1, A0g_2, A0g_3, A0g_4, A0g_5, A0g_6, A0g_7, A0g_8, A0g_9, A0g_10, A0g_11, A0l_0, A0l_1, A0l_2, A0l_3, A0l_4, A0l_5, A0l_6, A0l_7, A0l_8, A0l_9, A0l_10, A0l_11]
    refine cpN (x := i0 &&& 255) (y := i1 &&& 255) b0.1 b0.2 b1.1 b1.2 (fun q => xy (Int32.toInt_inj.mp q.symm)) (by (repeat refine LN_ou ?_ (by simp only [setA_len])); exact fun _ => rfl) (by simp [ou_a]) (by simp [ou_a]) (by simp [ou_a]) (by simp [ou_a, a03]) (by simp [ou_a, a04]) (by simp [ou_a, a05]) (by simp [ou_a, a06]) (by simp [ou_a]) (by simp [ou_a]) (by simp [ou_a]) (fun s' A' hL fr s1 s6 t m f => ?_)
    exact tlN b0.1 b0.2 b1.1 b1.2 (by255 i2) (by255 i3) (by255 i4) (by255 i5) (fun q => xy q.symm) hL ((fr 0 (by decide) (by decide) (by decide)).trans (by simp [ou_a])) s1 ((fr 2 (by decide) (by decide) (by decide)).trans (by simp [ou_a])) s6 ((fr 7 (by decide) (by decide) (by decide)).trans (by simp [ou_a])) ((fr 8 (by decide) (by decide) (by decide)).trans (by simp [ou_a])) ((fr 13 (by decide) (by decide) (by decide)).trans (by simp [ou_a])) ((fr 16 (by decide) (by decide) (by decide)).trans (by simp [ou_a])) ((f 7 (by decide)).trans (by simp [ou_a])) ((f 8 (by decide)).trans (by simp [ou_a])) ((f 9 (by decide)).trans (by simp [ou_a])) ((f 10 (by decide)).trans (by simp [ou_a])) ((f 11 (by decide)).trans (by simp [ou_a])) t m hQ
set_option maxRecDepth 1000000 in
set_option maxHeartbeats 20000000 in
theorem own_law (i0 : Int32) (i1 : Int32) (i2 : Int32) (i3 : Int32) (i4 : Int32) (i5 : Int32) : W tables_1 dn 0 x code ret 0 (entry [.int i0, .int i1, .int i2, .int i3, .int i4, .int i5] maxLocals) [] [] (fun v H1 => v = some (.int 1) ∧ H1.length - ([] : AHeap).length ≤ 40 ∧ tot tables_1 H1 - tot tables_1 [] ≤ 35328) := by
  show M22 0 [.val (.int i0), .val (.int i1), .val (.int i2), .val (.int i3), .val (.int i4), .val (.int i5), .unset, .unset, .unset, .unset, .unset, .unset, .unset, .unset, .unset, .unset, .unset] [] [] _
  exact own_gen _ _ _ _ _ _ (fun s' A' h => own_fin s' A' h)
theorem own_dn : ∀ f' l', dnOf dn x = some (f', l') → f' ≤ room_1.frames ∧ l' ≤ room_1.locals := by
  have h : dnOf dn x = some (4, 61) := by decide +kernel
  intro f' l' q; rw [h] at q; cases q; decide
theorem own_pn : Jvm.plainName x.cls = true := by first | (simp [Jvm.plainName, overriddenIn, x]; done) | decide +kernel
theorem own_rm (l : Launch) (Z : State) (a0 : Array Value) (hw : ∀ d ∈ tables_1, d.before a0 Z = true) (i0 : Int32) (i1 : Int32) (i2 : Int32) (i3 : Int32) (i4 : Int32) (i5 : Int32) (h : Heap) :
    MetFree l x (head1 (Jvm.Cond.code x code maxLocals ret :: tables_1) room_1) (fun a U => a = #[.int i0, .int i1, .int i2, .int i3, .int i4, .int i5] ∧ Z.Warmed39 U.vm ∧ U.heap = h) (fun _ _ _ _ _ => True) (fun _ U o U' => ∃ w L, o = .returned w ∧ (w = some (.int 1) ∧ Fr h.size L) ∧ FrameEnd U o U' L 40 35328) :=
  law_of (as := [.int i0, .int i1, .int i2, .int i3, .int i4, .int i5]) (mx := maxLocals) (f := room_1.frames) (lc := room_1.locals) hw l tables_1 own_pn (by show 6 ≤ 17; omega) (own_law i0 i1 i2 i3 i4 i5) own_dn (Sim.empty Z tables_1 h)
set_option maxRecDepth 65536 in
set_option maxHeartbeats 40000000 in
theorem comes_1 {Post : Tables → Env → Array Value → State → Outcome → State → Prop} (hpost : ∀ tb e args s v u, (limb_1_1.after args s (.returned v) u = true ∧ limb_1_2.after args s (.returned v) u = true ∧ True) → FrameEnd s (.returned v) u (Jvm.fieldLocs frame_1_writes args s ++ Jvm.arrayLocs frame_1_arrays args s ++ Jvm.staticLocs frame_1_statics s) 40 35328 → Post tb e args s (.returned v) u) :
    ArmFor flags0 classFile x code maxLocals ret World_1 tables_1 room_1 Calls_1 rest_1 Pre_1 Post := by
  intro l hfl _ _ p e ha hc hk s m args below hf hA hF happ hP
  obtain ⟨hcalls, hrest, hpre⟩ := hP
  obtain ⟨-, -, -, hnamed, -, -, -, hat⟩ := (Spec.applies_iff hf).mp happ
  obtain ⟨hg, hn⟩ := and_e (Cond.before_iff.mp (show (Jvm.Cond.and given_1 narrow_1).before args s = true from hpre))
  obtain ⟨g0, t0⟩ := and_e hg
  obtain ⟨q0, t1⟩ := and_e t0
  obtain ⟨q1, t2⟩ := and_e t1
  obtain ⟨q2, t3⟩ := and_e t2
  obtain ⟨q3, t4⟩ := and_e t3
  obtain ⟨q4, t5⟩ := and_e t4
  have q5 := t5
  obtain ⟨w0, w1, w2, w3, w4, w5, rfl⟩ : ∃ w0 w1 w2 w3 w4 w5 : Value, args = #[w0, w1, w2, w3, w4, w5] := by
    have hs : args.size = 6 := by simpa [Cond.value, given_1] using g0
    obtain ⟨L⟩ := args
    match L, hs with
    | [w0, w1, w2, w3, w4, w5], _ => exact ⟨w0, w1, w2, w3, w4, w5, rfl⟩
  have hw := fun d (hd : d ∈ tables_1) => atoms_spec (ws := Jvm.Cond.code x code maxLocals ret :: tables_1) hat d (List.mem_cons_of_mem _ hd)
  obtain ⟨i0, ei0⟩ := is_v q0
  obtain rfl : w0 = (.int i0) := Option.some.inj ei0
  obtain ⟨i1, ei1⟩ := is_v q1
  obtain rfl : w1 = (.int i1) := Option.some.inj ei1
  obtain ⟨i2, ei2⟩ := is_v q2
  obtain rfl : w2 = (.int i2) := Option.some.inj ei2
  obtain ⟨i3, ei3⟩ := is_v q3
  obtain rfl : w3 = (.int i3) := Option.some.inj ei3
  obtain ⟨i4, ei4⟩ := is_v q4
  obtain rfl : w4 = (.int i4) := Option.some.inj ei4
  obtain ⟨i5, ei5⟩ := is_v q5
  obtain rfl : w5 = (.int i5) := Option.some.inj ei5
  obtain ⟨n, o, h1, h2, h3, _, L, rfl, ⟨rfl, N⟩, hq⟩ := own_rm l s _ hw i0 i1 i2 i3 i4 i5 s.heap p e ha hc hk s m _ below hf ((Spec.applies_iff_loose hf).mp happ).1 ⟨rfl, State.Warmed39.refl s, rfl⟩ trivial
  exact ⟨n, _, h1, h2, h3, hpost _ _ _ _ _ _ ⟨Cond.after_iff.mpr rfl, Cond.after_iff.mpr (eq_i res_at (Term.int_eval (1)) rfl), trivial⟩ ⟨hq.1, hq.2.1, (hq.2.2.sift fun y hy => Or.inr (N y hy)).mono (by decide) (by decide)⟩⟩
theorem main_1_1 : Claimed_1_1 := comes_1 fun _ _ _ _ _ _ h hF => ⟨h.1, hF⟩
theorem main_1_2 : Claimed_1_2 := comes_1 fun _ _ _ _ _ _ h hF => ⟨h.2.1, hF⟩
end Jvm.Pilot.@@N@@
namespace Jvm.Pilot.@@N@@
open Jvm Jvm.ClassFile Sem Op Lib Jvm.Free Jvm.Stand Jvm.Pilot.@@N@@.Jvm.D
/-! MADE BY PROGRAM (witnessworld.py) out of the Statement's table words and the real class files: 11 classes; the members and pool entries that the words name. The judged class is class 1, her method 2. -/
namespace start1
open Jvm.ClassFile
def u (s : String) : CpInfo := .utf8 (stringToUtf16 s)
/-- a pool by its gaps: so many unusable entries, then the entry; so many at the end -/
def gap : Nat → List CpInfo → List CpInfo
  | 0, r => r
  | n + 1, r => .unusable :: gap n r
def poolList (es : List (Nat × CpInfo)) (last : Nat) : List CpInfo := es.foldr (fun e r => gap e.1 (e.2 :: r)) (gap last [])
def pool (es : List (Nat × CpInfo)) (last : Nat) : Array CpInfo := ⟨poolList es last⟩
def fileOf (pool : Array CpInfo) (this : Nat) (attrs : Array Attribute := #[]) (ms : Array MethodInfo := #[]) (fl : Nat := 33) (sup : Nat := 0) (ifs : Array Nat := #[]) (fds : Array FieldInfo := #[]) : ClassFile where
  minorVersion := 0
  majorVersion := 65
  constantPool := pool
  accessFlags := fl
  thisClass := this
  superClass := sup
  interfaces := ifs
  fields := fds
  methods := ms
  attributes := attrs
def plain (name : String) (sup : Option ClassId) : Class where
  name := name
  kind := .ordinary
  loader := none
  accessFlags := 33
  super := sup
  interfaces := #[]
  cf := none
  fields := #[]
  methods := #[]
  instanceTypes := #[]
  staticTypes := #[]
  resolved := #[]
  callSites := []
  init := .initialized
  statics := none
  mirror := none

def pool0 : Array CpInfo := pool [(5, u "<init>"), (0, u "()V"), (1, .class_ 10), (1, u "java/lang/Object")] 113

def k0c0 : Code := { maxStack := 0, maxLocals := 1, code := object_method_1_code, exceptionTable := #[], attributes := #[] }
def k0m0 : Method := { name := "<init>", desc := "()V", sig := { parameters := [], returnType := none }, accessFlags := 1, code := some k0c0 }
/-- java/lang/Object -/
def k0 : Class := { plain "java/lang/Object" none with
  accessFlags := 33
  interfaces := #[]
  cf := some (fileOf pool0 8 #[] #[{ accessFlags := 1, nameIndex := 5, descriptorIndex := 6, attributes := #[] }] 33 0 #[] #[])
  fields := #[]
  methods := #[k0m0]
  instanceTypes := #[]
  staticTypes := #[]
  resolved := Array.replicate 124 none
  statics := none }

def pool1 : Array CpInfo := pool [(2, .class_ 4), (1, u "java/lang/Object"), (0, u "<init>"), (0, u "()V"), (0, .class_ 8), (0, u "StreamSigScanner"), (0, .methodref 7 10), (0, .nameAndType 5 11), (0, u "(I)V"), (0, .methodref 7 13), (0, .nameAndType 14 15), (0, u "addSigByte"), (0, u "(I)I"), (0, .methodref 7 17), (0, .nameAndType 18 19), (0, u "endSig"), (0, u "()I"), (0, .methodref 7 21), (0, .nameAndType 22 19), (0, u "compile"), (0, .methodref 7 24), (0, .nameAndType 25 15), (0, u "openSegment"), (0, .methodref 7 27), (0, .nameAndType 28 15), (0, u "segByte"), (0, .methodref 7 30), (0, .nameAndType 31 19), (0, u "closeSegment"), (0, .methodref 7 33), (0, .nameAndType 34 15), (0, u "stat"), (0, .methodref 36 37), (0, .class_ 38), (0, .nameAndType 39 40), (0, u "StreamSigScannerL3"), (0, u "at"), (0, u "(IIIII)I"), (0, .methodref 7 42), (0, .nameAndType 43 15), (0, u "matchSig"), (0, .methodref 7 45), (0, .nameAndType 46 15), (0, u "matchEnd"), (3, u "law"), (0, u "(IIIIII)Z")] 2

def k1m0 : Method := { name := "<init>", desc := "()V", sig := { parameters := [], returnType := none }, accessFlags := 1, code := none }
def k1c1 : Code := { maxStack := 2, maxLocals := 5, code := method_2_code, exceptionTable := #[], attributes := #[] }
def k1m1 : Method := { name := "at", desc := "(IIIII)I", sig := { parameters := [.int, .int, .int, .int, .int], returnType := some .int }, accessFlags := 10, code := some k1c1 }
def k1c2 : Code := { maxStack := 5, maxLocals := 17, code := code, exceptionTable := #[], attributes := #[] }
def k1m2 : Method := { name := "law", desc := "(IIIIII)Z", sig := { parameters := [.int, .int, .int, .int, .int, .int], returnType := some .boolean }, accessFlags := 9, code := some k1c2 }
/-- StreamSigScannerL3 -/
def k1 : Class := { plain "StreamSigScannerL3" (some 0) with
  accessFlags := 49
  interfaces := #[]
  cf := some (fileOf pool1 36 #[] #[{ accessFlags := 1, nameIndex := 5, descriptorIndex := 6, attributes := #[] }, { accessFlags := 10, nameIndex := 39, descriptorIndex := 40, attributes := #[] }, { accessFlags := 9, nameIndex := 50, descriptorIndex := 51, attributes := #[] }] 49 2 #[] #[])
  fields := #[]
  methods := #[k1m0, k1m1, k1m2]
  instanceTypes := #[]
  staticTypes := #[]
  resolved := Array.replicate 54 none
  statics := none }

def pool2 : Array CpInfo := pool [(1, .methodref 2 3), (0, .class_ 4), (0, .nameAndType 5 6), (0, u "java/lang/Object"), (0, u "<init>"), (0, u "()V"), (0, .fieldref 8 9), (0, .class_ 10), (0, .nameAndType 11 12), (0, u "StreamSigScanner"), (0, u "sigBytes"), (0, u "[I"), (0, .fieldref 8 14), (0, .nameAndType 15 12), (0, u "sigStart"), (0, .fieldref 8 17), (0, .nameAndType 18 12), (0, u "sigLen"), (0, .fieldref 8 20), (0, .nameAndType 21 12), (0, u "delta"), (0, .fieldref 8 23), (0, .nameAndType 24 12), (0, u "fail"), (0, .fieldref 8 26), (0, .nameAndType 27 12), (0, u "outMask"), (0, .fieldref 8 29), (0, .nameAndType 30 12), (0, u "queue"), (0, .fieldref 8 32), (0, .nameAndType 33 34), (0, u "present"), (0, u "[Z"), (0, .fieldref 8 36), (0, .nameAndType 37 12), (0, u "stream"), (0, .fieldref 8 39), (0, .nameAndType 40 12), (0, u "segBuf"), (0, .fieldref 8 42), (0, .nameAndType 43 12), (0, u "matchSigs"), (0, .fieldref 8 45), (0, .nameAndType 46 12), (0, u "matchEnds"), (0, .fieldref 8 48), (0, .nameAndType 49 50), (0, u "window"), (0, u "I"), (0, .fieldref 8 52), (0, .nameAndType 53 54), (0, u "compiled"), (0, u "Z"), (0, .fieldref 8 56), (0, .nameAndType 57 50), (0, u "sigCount"), (0, .fieldref 8 59), (0, .nameAndType 60 50), (0, u "endedBytes"), (0, .fieldref 8 62), (0, .nameAndType 63 50), (0, u "pendLen"), (0, .fieldref 8 65), (0, .nameAndType 66 50), (0, u "nodeCount"), (0, .fieldref 8 68), (0, .nameAndType 69 50), (0, u "scanState"), (0, .fieldref 8 71), (0, .nameAndType 72 50), (0, u "delivered"), (0, .fieldref 8 74), (0, .nameAndType 75 50), (0, u "held"), (0, .fieldref 8 77), (0, .nameAndType 78 50), (0, u "conflicts"), (0, .fieldref 8 80), (0, .nameAndType 81 50), (0, u "duplicates"), (0, .fieldref 8 83), (0, .nameAndType 84 50), (0, u "dropped"), (0, .fieldref 8 86), (0, .nameAndType 87 50), (0, u "lastConflict"), (0, .fieldref 8 89), (0, .nameAndType 90 54), (0, u "segOpen"), (0, .fieldref 8 92), (0, .nameAndType 93 50), (0, u "segStart"), (0, .fieldref 8 95), (0, .nameAndType 96 50), (0, u "segLen"), (0, .fieldref 8 98), (0, .nameAndType 99 50), (0, u "matchTotal"), (0, .methodref 8 101), (0, .nameAndType 102 103), (0, u "isByte"), (0, u "(I)Z"), (0, .methodref 8 105), (0, .nameAndType 106 6), (0, u "buildTrie"), (0, .methodref 8 108), (0, .nameAndType 109 6), (0, u "buildAutomaton"), (0, .methodref 8 111), (0, .nameAndType 112 6), (0, u "clearAutomaton"), (0, .methodref 8 114), (0, .nameAndType 115 116), (0, u "insertSig"), (0, u "(I)V"), (0, .methodref 8 118), (0, .nameAndType 119 103), (0, u "isOffset"), (0, .methodref 8 121), (0, .nameAndType 122 123), (0, u "absorbByte"), (0, u "(III)V"), (0, .methodref 8 125), (0, .nameAndType 126 6), (0, u "advanceDelivered"), (0, .methodref 8 128), (0, .nameAndType 129 130), (0, u "feed"), (0, u "(II)V"), (0, .methodref 8 132), (0, .nameAndType 133 130), (0, u "recordMatch"), (7, .methodref 8 142), (0, .nameAndType 143 103), (0, u "validRecord"), (0, u "OK"), (2, u "ERR_STATE"), (1, u "ERR_ARG"), (1, u "ERR_FULL"), (1, u "ERR_EMPTY"), (1, u "ERR_RANGE"), (1, u "MAX_SIGS"), (1, u "MAX_SIG_LEN"), (0, u "MAX_SIG_BYTES"), (1, u "STREAM_CAP"), (1, u "MAX_SEG_LEN"), (0, u "MATCH_CAP"), (0, u "MIN_WINDOW"), (1, u "MAX_WINDOW"), (0, u "STAT_DELIVERED"), (0, u "STAT_HELD"), (1, u "STAT_CONFLICTS"), (1, u "STAT_DUPLICATES"), (1, u "STAT_DROPPED"), (1, u "STAT_MATCHES"), (1, u "STAT_SIGS"), (1, u "STAT_SIG_BYTES"), (1, u "STAT_PENDING"), (0, u "STAT_COMPILED"), (1, u "STAT_SEG_OPEN"), (1, u "STAT_SEG_START"), (1, u "STAT_SEG_LEN"), (1, u "STAT_LAST_CONFLICT"), (1, u "STAT_WINDOW"), (1, u "MAX_NODES"), (1, u "ALPHABET"), (3, u "addSigByte"), (0, u "(I)I"), (0, u "endSig"), (0, u "()I"), (0, u "compile"), (0, u "openSegment"), (0, u "segByte"), (0, u "closeSegment"), (0, u "stat"), (4, u "matchSig"), (0, u "matchEnd")] 2

def k2c0 : Code := { maxStack := 2, maxLocals := 3, code := prog_1_method_1_code, exceptionTable := #[], attributes := #[] }
def k2m0 : Method := { name := "<init>", desc := "(I)V", sig := { parameters := [.int], returnType := none }, accessFlags := 1, code := some k2c0 }
def k2c1 : Code := { maxStack := 3, maxLocals := 3, code := prog_1_method_2_code, exceptionTable := #[], attributes := #[] }
def k2m1 : Method := { name := "addSigByte", desc := "(I)I", sig := { parameters := [.int], returnType := some .int }, accessFlags := 1, code := some k2c1 }
def k2c2 : Code := { maxStack := 3, maxLocals := 2, code := prog_1_method_3_code, exceptionTable := #[], attributes := #[] }
def k2m2 : Method := { name := "endSig", desc := "()I", sig := { parameters := [], returnType := some .int }, accessFlags := 1, code := some k2c2 }
def k2c3 : Code := { maxStack := 2, maxLocals := 1, code := prog_1_method_4_code, exceptionTable := #[], attributes := #[] }
def k2m3 : Method := { name := "compile", desc := "()I", sig := { parameters := [], returnType := some .int }, accessFlags := 1, code := some k2c3 }
def k2c4 : Code := { maxStack := 2, maxLocals := 2, code := prog_1_method_5_code, exceptionTable := #[], attributes := #[] }
def k2m4 : Method := { name := "buildTrie", desc := "()V", sig := { parameters := [], returnType := none }, accessFlags := 2, code := some k2c4 }
def k2c5 : Code := { maxStack := 3, maxLocals := 2, code := prog_1_method_6_code, exceptionTable := #[], attributes := #[] }
def k2m5 : Method := { name := "clearAutomaton", desc := "()V", sig := { parameters := [], returnType := none }, accessFlags := 2, code := some k2c5 }
def k2c6 : Code := { maxStack := 5, maxLocals := 8, code := prog_1_method_7_code, exceptionTable := #[], attributes := #[] }
def k2m6 : Method := { name := "insertSig", desc := "(I)V", sig := { parameters := [.int], returnType := none }, accessFlags := 2, code := some k2c6 }
def k2c7 : Code := { maxStack := 5, maxLocals := 9, code := prog_1_method_8_code, exceptionTable := #[], attributes := #[] }
def k2m7 : Method := { name := "buildAutomaton", desc := "()V", sig := { parameters := [], returnType := none }, accessFlags := 2, code := some k2c7 }
def k2c8 : Code := { maxStack := 2, maxLocals := 2, code := prog_1_method_9_code, exceptionTable := #[], attributes := #[] }
def k2m8 : Method := { name := "openSegment", desc := "(I)I", sig := { parameters := [.int], returnType := some .int }, accessFlags := 1, code := some k2c8 }
def k2c9 : Code := { maxStack := 3, maxLocals := 2, code := prog_1_method_10_code, exceptionTable := #[], attributes := #[] }
def k2m9 : Method := { name := "segByte", desc := "(I)I", sig := { parameters := [.int], returnType := some .int }, accessFlags := 1, code := some k2c9 }
def k2c10 : Code := { maxStack := 4, maxLocals := 3, code := prog_1_method_11_code, exceptionTable := #[], attributes := #[] }
def k2m10 : Method := { name := "closeSegment", desc := "()I", sig := { parameters := [], returnType := some .int }, accessFlags := 1, code := some k2c10 }
def k2c11 : Code := { maxStack := 3, maxLocals := 4, code := prog_1_method_12_code, exceptionTable := #[], attributes := #[] }
def k2m11 : Method := { name := "absorbByte", desc := "(III)V", sig := { parameters := [.int, .int, .int], returnType := none }, accessFlags := 2, code := some k2c11 }
def k2c12 : Code := { maxStack := 3, maxLocals := 4, code := prog_1_method_13_code, exceptionTable := #[], attributes := #[] }
def k2m12 : Method := { name := "advanceDelivered", desc := "()V", sig := { parameters := [], returnType := none }, accessFlags := 2, code := some k2c12 }
def k2c13 : Code := { maxStack := 3, maxLocals := 7, code := prog_1_method_14_code, exceptionTable := #[], attributes := #[] }
def k2m13 : Method := { name := "feed", desc := "(II)V", sig := { parameters := [.int, .int], returnType := none }, accessFlags := 2, code := some k2c13 }
def k2c14 : Code := { maxStack := 3, maxLocals := 3, code := prog_1_method_15_code, exceptionTable := #[], attributes := #[] }
def k2m14 : Method := { name := "recordMatch", desc := "(II)V", sig := { parameters := [.int, .int], returnType := none }, accessFlags := 2, code := some k2c14 }
def k2c15 : Code := { maxStack := 2, maxLocals := 2, code := prog_1_method_16_code, exceptionTable := #[], attributes := #[] }
def k2m15 : Method := { name := "stat", desc := "(I)I", sig := { parameters := [.int], returnType := some .int }, accessFlags := 1, code := some k2c15 }
def k2c16 : Code := { maxStack := 2, maxLocals := 2, code := prog_1_method_20_code, exceptionTable := #[], attributes := #[] }
def k2m16 : Method := { name := "matchSig", desc := "(I)I", sig := { parameters := [.int], returnType := some .int }, accessFlags := 1, code := some k2c16 }
def k2c17 : Code := { maxStack := 2, maxLocals := 2, code := prog_1_method_21_code, exceptionTable := #[], attributes := #[] }
def k2m17 : Method := { name := "matchEnd", desc := "(I)I", sig := { parameters := [.int], returnType := some .int }, accessFlags := 1, code := some k2c17 }
def k2c18 : Code := { maxStack := 2, maxLocals := 2, code := prog_1_method_22_code, exceptionTable := #[], attributes := #[] }
def k2m18 : Method := { name := "isByte", desc := "(I)Z", sig := { parameters := [.int], returnType := some .boolean }, accessFlags := 2, code := some k2c18 }
def k2c19 : Code := { maxStack := 2, maxLocals := 2, code := prog_1_method_23_code, exceptionTable := #[], attributes := #[] }
def k2m19 : Method := { name := "isOffset", desc := "(I)Z", sig := { parameters := [.int], returnType := some .boolean }, accessFlags := 2, code := some k2c19 }
def k2c20 : Code := { maxStack := 2, maxLocals := 3, code := prog_1_method_25_code, exceptionTable := #[], attributes := #[] }
def k2m20 : Method := { name := "validRecord", desc := "(I)Z", sig := { parameters := [.int], returnType := some .boolean }, accessFlags := 2, code := some k2c20 }
/-- StreamSigScanner -/
def k2 : Class := { plain "StreamSigScanner" (some 0) with
  accessFlags := 49
  interfaces := #[]
  cf := some (fileOf pool2 8 #[] #[{ accessFlags := 1, nameIndex := 5, descriptorIndex := 116, attributes := #[] }, { accessFlags := 1, nameIndex := 203, descriptorIndex := 204, attributes := #[] }, { accessFlags := 1, nameIndex := 205, descriptorIndex := 206, attributes := #[] }, { accessFlags := 1, nameIndex := 207, descriptorIndex := 206, attributes := #[] }, { accessFlags := 2, nameIndex := 106, descriptorIndex := 6, attributes := #[] }, { accessFlags := 2, nameIndex := 112, descriptorIndex := 6, attributes := #[] }, { accessFlags := 2, nameIndex := 115, descriptorIndex := 116, attributes := #[] }, { accessFlags := 2, nameIndex := 109, descriptorIndex := 6, attributes := #[] }, { accessFlags := 1, nameIndex := 208, descriptorIndex := 204, attributes := #[] }, { accessFlags := 1, nameIndex := 209, descriptorIndex := 204, attributes := #[] }, { accessFlags := 1, nameIndex := 210, descriptorIndex := 206, attributes := #[] }, { accessFlags := 2, nameIndex := 122, descriptorIndex := 123, attributes := #[] }, { accessFlags := 2, nameIndex := 126, descriptorIndex := 6, attributes := #[] }, { accessFlags := 2, nameIndex := 129, descriptorIndex := 130, attributes := #[] }, { accessFlags := 2, nameIndex := 133, descriptorIndex := 130, attributes := #[] }, { accessFlags := 1, nameIndex := 211, descriptorIndex := 204, attributes := #[] }, { accessFlags := 1, nameIndex := 216, descriptorIndex := 204, attributes := #[] }, { accessFlags := 1, nameIndex := 217, descriptorIndex := 204, attributes := #[] }, { accessFlags := 2, nameIndex := 102, descriptorIndex := 103, attributes := #[] }, { accessFlags := 2, nameIndex := 119, descriptorIndex := 103, attributes := #[] }, { accessFlags := 2, nameIndex := 143, descriptorIndex := 103, attributes := #[] }] 49 2 #[] #[{ accessFlags := 25, nameIndex := 144, descriptorIndex := 50, attributes := #[] }, { accessFlags := 25, nameIndex := 147, descriptorIndex := 50, attributes := #[] }, { accessFlags := 25, nameIndex := 149, descriptorIndex := 50, attributes := #[] }, { accessFlags := 25, nameIndex := 151, descriptorIndex := 50, attributes := #[] }, { accessFlags := 25, nameIndex := 153, descriptorIndex := 50, attributes := #[] }, { accessFlags := 25, nameIndex := 155, descriptorIndex := 50, attributes := #[] }, { accessFlags := 25, nameIndex := 157, descriptorIndex := 50, attributes := #[] }, { accessFlags := 25, nameIndex := 159, descriptorIndex := 50, attributes := #[] }, { accessFlags := 25, nameIndex := 160, descriptorIndex := 50, attributes := #[] }, { accessFlags := 25, nameIndex := 162, descriptorIndex := 50, attributes := #[] }, { accessFlags := 25, nameIndex := 164, descriptorIndex := 50, attributes := #[] }, { accessFlags := 25, nameIndex := 165, descriptorIndex := 50, attributes := #[] }, { accessFlags := 25, nameIndex := 166, descriptorIndex := 50, attributes := #[] }, { accessFlags := 25, nameIndex := 168, descriptorIndex := 50, attributes := #[] }, { accessFlags := 25, nameIndex := 169, descriptorIndex := 50, attributes := #[] }, { accessFlags := 25, nameIndex := 170, descriptorIndex := 50, attributes := #[] }, { accessFlags := 25, nameIndex := 172, descriptorIndex := 50, attributes := #[] }, { accessFlags := 25, nameIndex := 174, descriptorIndex := 50, attributes := #[] }, { accessFlags := 25, nameIndex := 176, descriptorIndex := 50, attributes := #[] }, { accessFlags := 25, nameIndex := 178, descriptorIndex := 50, attributes := #[] }, { accessFlags := 25, nameIndex := 180, descriptorIndex := 50, attributes := #[] }, { accessFlags := 25, nameIndex := 182, descriptorIndex := 50, attributes := #[] }, { accessFlags := 25, nameIndex := 184, descriptorIndex := 50, attributes := #[] }, { accessFlags := 25, nameIndex := 185, descriptorIndex := 50, attributes := #[] }, { accessFlags := 25, nameIndex := 187, descriptorIndex := 50, attributes := #[] }, { accessFlags := 25, nameIndex := 189, descriptorIndex := 50, attributes := #[] }, { accessFlags := 25, nameIndex := 191, descriptorIndex := 50, attributes := #[] }, { accessFlags := 25, nameIndex := 193, descriptorIndex := 50, attributes := #[] }, { accessFlags := 25, nameIndex := 195, descriptorIndex := 50, attributes := #[] }, { accessFlags := 26, nameIndex := 197, descriptorIndex := 50, attributes := #[] }, { accessFlags := 26, nameIndex := 199, descriptorIndex := 50, attributes := #[] }, { accessFlags := 2, nameIndex := 49, descriptorIndex := 50, attributes := #[] }, { accessFlags := 2, nameIndex := 53, descriptorIndex := 54, attributes := #[] }, { accessFlags := 2, nameIndex := 57, descriptorIndex := 50, attributes := #[] }, { accessFlags := 2, nameIndex := 60, descriptorIndex := 50, attributes := #[] }, { accessFlags := 2, nameIndex := 63, descriptorIndex := 50, attributes := #[] }, { accessFlags := 2, nameIndex := 11, descriptorIndex := 12, attributes := #[] }, { accessFlags := 2, nameIndex := 15, descriptorIndex := 12, attributes := #[] }, { accessFlags := 2, nameIndex := 18, descriptorIndex := 12, attributes := #[] }, { accessFlags := 2, nameIndex := 21, descriptorIndex := 12, attributes := #[] }, { accessFlags := 2, nameIndex := 24, descriptorIndex := 12, attributes := #[] }, { accessFlags := 2, nameIndex := 27, descriptorIndex := 12, attributes := #[] }, { accessFlags := 2, nameIndex := 30, descriptorIndex := 12, attributes := #[] }, { accessFlags := 2, nameIndex := 66, descriptorIndex := 50, attributes := #[] }, { accessFlags := 2, nameIndex := 69, descriptorIndex := 50, attributes := #[] }, { accessFlags := 2, nameIndex := 33, descriptorIndex := 34, attributes := #[] }, { accessFlags := 2, nameIndex := 37, descriptorIndex := 12, attributes := #[] }, { accessFlags := 2, nameIndex := 72, descriptorIndex := 50, attributes := #[] }, { accessFlags := 2, nameIndex := 75, descriptorIndex := 50, attributes := #[] }, { accessFlags := 2, nameIndex := 78, descriptorIndex := 50, attributes := #[] }, { accessFlags := 2, nameIndex := 81, descriptorIndex := 50, attributes := #[] }, { accessFlags := 2, nameIndex := 84, descriptorIndex := 50, attributes := #[] }, { accessFlags := 2, nameIndex := 87, descriptorIndex := 50, attributes := #[] }, { accessFlags := 2, nameIndex := 90, descriptorIndex := 54, attributes := #[] }, { accessFlags := 2, nameIndex := 93, descriptorIndex := 50, attributes := #[] }, { accessFlags := 2, nameIndex := 96, descriptorIndex := 50, attributes := #[] }, { accessFlags := 2, nameIndex := 40, descriptorIndex := 12, attributes := #[] }, { accessFlags := 2, nameIndex := 99, descriptorIndex := 50, attributes := #[] }, { accessFlags := 2, nameIndex := 43, descriptorIndex := 12, attributes := #[] }, { accessFlags := 2, nameIndex := 46, descriptorIndex := 12, attributes := #[] }])
  fields := #[{ name := "OK", type := .int, accessFlags := 25, slot := 0, constantValue := 0 }, { name := "ERR_STATE", type := .int, accessFlags := 25, slot := 1, constantValue := 0 }, { name := "ERR_ARG", type := .int, accessFlags := 25, slot := 2, constantValue := 0 }, { name := "ERR_FULL", type := .int, accessFlags := 25, slot := 3, constantValue := 0 }, { name := "ERR_EMPTY", type := .int, accessFlags := 25, slot := 4, constantValue := 0 }, { name := "ERR_RANGE", type := .int, accessFlags := 25, slot := 5, constantValue := 0 }, { name := "MAX_SIGS", type := .int, accessFlags := 25, slot := 6, constantValue := 0 }, { name := "MAX_SIG_LEN", type := .int, accessFlags := 25, slot := 7, constantValue := 0 }, { name := "MAX_SIG_BYTES", type := .int, accessFlags := 25, slot := 8, constantValue := 0 }, { name := "STREAM_CAP", type := .int, accessFlags := 25, slot := 9, constantValue := 0 }, { name := "MAX_SEG_LEN", type := .int, accessFlags := 25, slot := 10, constantValue := 0 }, { name := "MATCH_CAP", type := .int, accessFlags := 25, slot := 11, constantValue := 0 }, { name := "MIN_WINDOW", type := .int, accessFlags := 25, slot := 12, constantValue := 0 }, { name := "MAX_WINDOW", type := .int, accessFlags := 25, slot := 13, constantValue := 0 }, { name := "STAT_DELIVERED", type := .int, accessFlags := 25, slot := 14, constantValue := 0 }, { name := "STAT_HELD", type := .int, accessFlags := 25, slot := 15, constantValue := 0 }, { name := "STAT_CONFLICTS", type := .int, accessFlags := 25, slot := 16, constantValue := 0 }, { name := "STAT_DUPLICATES", type := .int, accessFlags := 25, slot := 17, constantValue := 0 }, { name := "STAT_DROPPED", type := .int, accessFlags := 25, slot := 18, constantValue := 0 }, { name := "STAT_MATCHES", type := .int, accessFlags := 25, slot := 19, constantValue := 0 }, { name := "STAT_SIGS", type := .int, accessFlags := 25, slot := 20, constantValue := 0 }, { name := "STAT_SIG_BYTES", type := .int, accessFlags := 25, slot := 21, constantValue := 0 }, { name := "STAT_PENDING", type := .int, accessFlags := 25, slot := 22, constantValue := 0 }, { name := "STAT_COMPILED", type := .int, accessFlags := 25, slot := 23, constantValue := 0 }, { name := "STAT_SEG_OPEN", type := .int, accessFlags := 25, slot := 24, constantValue := 0 }, { name := "STAT_SEG_START", type := .int, accessFlags := 25, slot := 25, constantValue := 0 }, { name := "STAT_SEG_LEN", type := .int, accessFlags := 25, slot := 26, constantValue := 0 }, { name := "STAT_LAST_CONFLICT", type := .int, accessFlags := 25, slot := 27, constantValue := 0 }, { name := "STAT_WINDOW", type := .int, accessFlags := 25, slot := 28, constantValue := 0 }, { name := "MAX_NODES", type := .int, accessFlags := 26, slot := 29, constantValue := 0 }, { name := "ALPHABET", type := .int, accessFlags := 26, slot := 30, constantValue := 0 }, { name := "window", type := .int, accessFlags := 2, slot := 0, constantValue := 0 }, { name := "compiled", type := .boolean, accessFlags := 2, slot := 1, constantValue := 0 }, { name := "sigCount", type := .int, accessFlags := 2, slot := 2, constantValue := 0 }, { name := "endedBytes", type := .int, accessFlags := 2, slot := 3, constantValue := 0 }, { name := "pendLen", type := .int, accessFlags := 2, slot := 4, constantValue := 0 }, { name := "sigBytes", type := (.array .int), accessFlags := 2, slot := 5, constantValue := 0 }, { name := "sigStart", type := (.array .int), accessFlags := 2, slot := 6, constantValue := 0 }, { name := "sigLen", type := (.array .int), accessFlags := 2, slot := 7, constantValue := 0 }, { name := "delta", type := (.array .int), accessFlags := 2, slot := 8, constantValue := 0 }, { name := "fail", type := (.array .int), accessFlags := 2, slot := 9, constantValue := 0 }, { name := "outMask", type := (.array .int), accessFlags := 2, slot := 10, constantValue := 0 }, { name := "queue", type := (.array .int), accessFlags := 2, slot := 11, constantValue := 0 }, { name := "nodeCount", type := .int, accessFlags := 2, slot := 12, constantValue := 0 }, { name := "scanState", type := .int, accessFlags := 2, slot := 13, constantValue := 0 }, { name := "present", type := (.array .boolean), accessFlags := 2, slot := 14, constantValue := 0 }, { name := "stream", type := (.array .int), accessFlags := 2, slot := 15, constantValue := 0 }, { name := "delivered", type := .int, accessFlags := 2, slot := 16, constantValue := 0 }, { name := "held", type := .int, accessFlags := 2, slot := 17, constantValue := 0 }, { name := "conflicts", type := .int, accessFlags := 2, slot := 18, constantValue := 0 }, { name := "duplicates", type := .int, accessFlags := 2, slot := 19, constantValue := 0 }, { name := "dropped", type := .int, accessFlags := 2, slot := 20, constantValue := 0 }, { name := "lastConflict", type := .int, accessFlags := 2, slot := 21, constantValue := 0 }, { name := "segOpen", type := .boolean, accessFlags := 2, slot := 22, constantValue := 0 }, { name := "segStart", type := .int, accessFlags := 2, slot := 23, constantValue := 0 }, { name := "segLen", type := .int, accessFlags := 2, slot := 24, constantValue := 0 }, { name := "segBuf", type := (.array .int), accessFlags := 2, slot := 25, constantValue := 0 }, { name := "matchTotal", type := .int, accessFlags := 2, slot := 26, constantValue := 0 }, { name := "matchSigs", type := (.array .int), accessFlags := 2, slot := 27, constantValue := 0 }, { name := "matchEnds", type := (.array .int), accessFlags := 2, slot := 28, constantValue := 0 }]
  methods := #[k2m0, k2m1, k2m2, k2m3, k2m4, k2m5, k2m6, k2m7, k2m8, k2m9, k2m10, k2m11, k2m12, k2m13, k2m14, k2m15, k2m16, k2m17, k2m18, k2m19, k2m20]
  instanceTypes := #[.int, .boolean, .int, .int, .int, (.array .int), (.array .int), (.array .int), (.array .int), (.array .int), (.array .int), (.array .int), .int, .int, (.array .boolean), (.array .int), .int, .int, .int, .int, .int, .int, .boolean, .int, .int, (.array .int), .int, (.array .int), (.array .int)]
  staticTypes := #[.int, .int, .int, .int, .int, .int, .int, .int, .int, .int, .int, .int, .int, .int, .int, .int, .int, .int, .int, .int, .int, .int, .int, .int, .int, .int, .int, .int, .int, .int, .int]
  resolved := Array.replicate 220 none
  statics := none }

def pool3 : Array CpInfo := pool [(1, u "java/lang/Cloneable"), (0, .class_ 1), (0, u "java/lang/Object"), (0, .class_ 3)] 3

/-- java/lang/Cloneable -/
def k3 : Class := { plain "java/lang/Cloneable" (some 0) with
  accessFlags := 1537
  interfaces := #[]
  cf := some (fileOf pool3 2 #[] #[] 1537 4 #[] #[])
  fields := #[]
  methods := #[]
  instanceTypes := #[]
  staticTypes := #[]
  resolved := Array.replicate 8 none
  statics := none }

def pool4 : Array CpInfo := pool [(1, u "java/io/Serializable"), (0, .class_ 1), (0, u "java/lang/Object"), (0, .class_ 3)] 3

/-- java/io/Serializable -/
def k4 : Class := { plain "java/io/Serializable" (some 0) with
  accessFlags := 1537
  interfaces := #[]
  cf := some (fileOf pool4 2 #[] #[] 1537 4 #[] #[])
  fields := #[]
  methods := #[]
  instanceTypes := #[]
  staticTypes := #[]
  resolved := Array.replicate 8 none
  statics := none }

/-- the primitive boolean -/
def k5 : Class := { plain "boolean" none with kind := .primitive 'Z', accessFlags := 0x411 }
/-- [Z -/
def k6 : Class := { plain "[Z" (some 0) with kind := .array 5 .boolean, interfaces := #[3, 4], accessFlags := 1041 }

/-- the primitive byte -/
def k7 : Class := { plain "byte" none with kind := .primitive 'B', accessFlags := 0x411 }
/-- [B -/
def k8 : Class := { plain "[B" (some 0) with kind := .array 7 .byte, interfaces := #[3, 4], accessFlags := 1041 }

/-- the primitive int -/
def k9 : Class := { plain "int" none with kind := .primitive 'I', accessFlags := 0x411 }
/-- [I -/
def k10 : Class := { plain "[I" (some 0) with kind := .array 9 .int, interfaces := #[3, 4], accessFlags := 1041 }

def heap : Heap := #[]
def classes : Array Class := #[k0, k1, k2, k3, k4, k5, k6, k7, k8, k9, k10]
def interned : List (Array UInt16 × Addr) := []
def slotsUsed : Nat := 0
def theMethod : MethodId := ⟨1, 2⟩
def args0 : Array Value := #[.int 1, .int 2, .int 3, .int 4, .int 5, .int 6]
def aboutOver (below : List Frame) : State where
  vm := { classes := classes, interned := interned.toArray }
  heap := heap
  slotsUsed := slotsUsed
  threads := #[{ frames := .invoking theMethod args0 :: below }]
def below0 : List Frame := [.native { method := ⟨0, 0⟩, args := #[] }]
def about1 : State := aboutOver below0
def p0 : Program := .bare "" "" ""
def e0 : Env := launch0.env 0 0 0
theorem w_frames : about1.frames = Frame.invoking theMethod args0 :: below0 := rfl
set_option maxRecDepth 65536 in
theorem w_args : argsFit about1.vm theMethod args0 = true := by decide +kernel
set_option maxRecDepth 65536 in
theorem w_heap : heapFits about1 = true := by decide +kernel
set_option maxRecDepth 65536 in
theorem w_runnable : about1.curStatus? = some .runnable := by decide +kernel
set_option maxRecDepth 65536 in
theorem w_alone : about1.alone = true := by decide +kernel
set_option maxRecDepth 65536 in
theorem w_named : about1.methodNamed? x = some theMethod := by decide +kernel
set_option maxRecDepth 65536 in
theorem w_hears : about1.hears theMethod below0 = true := by decide +kernel
set_option maxRecDepth 65536 in
theorem w_ripe : about1.ripe theMethod args0 below0 = true := by decide +kernel
theorem w_running : about1.status = .running := rfl
set_option maxRecDepth 65536 in
theorem w_room : about1.hasRoom e0.platform room_1 = true :=
  launch0.hasRoom_least _ room_1 (by decide +kernel) (by decide +kernel) (by decide +kernel) (by decide +kernel) (by decide +kernel) (by decide +kernel)
theorem allAtoms_all (ts : List Jvm.Cond) (a : Array Jvm.Value) (st : Jvm.State) : (allAtoms ts).before a st = ts.all (fun c => c.before a st) := by
  induction ts with
  | nil => rfl
  | cons c t ih =>
    show (Jvm.Cond.and c (allAtoms t)).before a st = _
    rw [Jvm.Cond.before_and, ih, List.all_cons]
def words1 : List Jvm.Cond := Jvm.Cond.code x code maxLocals ret :: tables_1
/-- a 'code' word, met by the world's own term for the bytes: nothing is compared byte by byte -/
theorem code_word {y : MethodName} {bytes : ByteArray} {mx : Nat} {rt : Option FieldType} {a : Array Value} {s : State} {m : MethodId} {meth : Method} {c : Code} (h1 : s.methodNamed? y = some m) (h2 : s.vm.method? m = some meth) (h3 : meth.code = some c) (h4 : c.code = bytes)
    (h5 : (c.maxLocals == mx && c.exceptionTable.isEmpty && decide (c.maxStack ≤ mostOperands) && decide (meth.sig.returnType = rt) && !meth.locks && decide (parseMethodDescriptor y.desc = some meth.sig)) = true) : (Jvm.Cond.code y bytes mx rt).before a s = true := by
  simp only [Bool.and_eq_true, beq_iff_eq, Bool.not_eq_true', decide_eq_true_eq] at h5
  obtain ⟨⟨⟨⟨⟨g1, g2⟩, g3⟩, g4⟩, g5⟩, g6⟩ := h5
  simp [Cond.before, Cond.holds, Cond.value, h1, h2, h3, h4, g1, g2, g3, g4, g5, g6]
def isCode : Jvm.Cond → Bool
  | .code _ _ _ _ => true
  | _ => false
theorem all_split {L : List Jvm.Cond} {P : Jvm.Cond → Bool} (h1 : L.all (fun c => isCode c || P c) = true) (h2 : ∀ c ∈ L.filter isCode, P c = true) : L.all P = true := by
  refine List.all_eq_true.mpr fun c hc => ?_
  have h := List.all_eq_true.mp h1 c hc
  rcases Bool.eq_false_or_eq_true (isCode c) with hi | hi
  · exact h2 c (List.mem_filter.mpr ⟨hc, hi⟩)
  · simpa [hi] using h
set_option maxRecDepth 65536 in
theorem w_c0 : (Jvm.Cond.code x code maxLocals ret).before args0 about1 = true := code_word (m := ⟨1, 2⟩) (meth := k1m2) (c := k1c2) (by decide +kernel) rfl rfl rfl (by decide +kernel)
set_option maxRecDepth 65536 in
theorem w_c1 : (Jvm.Cond.code ({ cls := "StreamSigScanner", name := "<init>", desc := "(I)V" } : Jvm.MethodName) prog_1_method_1_code (3 : Nat) (Option.none : Option Jvm.ClassFile.FieldType)).before args0 about1 = true := code_word (m := ⟨2, 0⟩) (meth := k2m0) (c := k2c0) (by decide +kernel) rfl rfl rfl (by decide +kernel)
set_option maxRecDepth 65536 in
theorem w_c2 : (Jvm.Cond.code ({ cls := "java/lang/Object", name := "<init>", desc := "()V" } : Jvm.MethodName) object_method_1_code (1 : Nat) (Option.none : Option Jvm.ClassFile.FieldType)).before args0 about1 = true := code_word (m := ⟨0, 0⟩) (meth := k0m0) (c := k0c0) (by decide +kernel) rfl rfl rfl (by decide +kernel)
set_option maxRecDepth 65536 in
theorem w_c3 : (Jvm.Cond.code ({ cls := "StreamSigScanner", name := "addSigByte", desc := "(I)I" } : Jvm.MethodName) prog_1_method_2_code (3 : Nat) (Option.some Jvm.ClassFile.FieldType.int)).before args0 about1 = true := code_word (m := ⟨2, 1⟩) (meth := k2m1) (c := k2c1) (by decide +kernel) rfl rfl rfl (by decide +kernel)
set_option maxRecDepth 65536 in
theorem w_c4 : (Jvm.Cond.code ({ cls := "StreamSigScanner", name := "isByte", desc := "(I)Z" } : Jvm.MethodName) prog_1_method_22_code (2 : Nat) (Option.some Jvm.ClassFile.FieldType.boolean)).before args0 about1 = true := code_word (m := ⟨2, 18⟩) (meth := k2m18) (c := k2c18) (by decide +kernel) rfl rfl rfl (by decide +kernel)
set_option maxRecDepth 65536 in
theorem w_c5 : (Jvm.Cond.code ({ cls := "StreamSigScanner", name := "endSig", desc := "()I" } : Jvm.MethodName) prog_1_method_3_code (2 : Nat) (Option.some Jvm.ClassFile.FieldType.int)).before args0 about1 = true := code_word (m := ⟨2, 2⟩) (meth := k2m2) (c := k2c2) (by decide +kernel) rfl rfl rfl (by decide +kernel)
set_option maxRecDepth 65536 in
theorem w_c6 : (Jvm.Cond.code ({ cls := "StreamSigScanner", name := "compile", desc := "()I" } : Jvm.MethodName) prog_1_method_4_code (1 : Nat) (Option.some Jvm.ClassFile.FieldType.int)).before args0 about1 = true := code_word (m := ⟨2, 3⟩) (meth := k2m3) (c := k2c3) (by decide +kernel) rfl rfl rfl (by decide +kernel)
set_option maxRecDepth 65536 in
theorem w_c7 : (Jvm.Cond.code ({ cls := "StreamSigScanner", name := "buildTrie", desc := "()V" } : Jvm.MethodName) prog_1_method_5_code (2 : Nat) (Option.none : Option Jvm.ClassFile.FieldType)).before args0 about1 = true := code_word (m := ⟨2, 4⟩) (meth := k2m4) (c := k2c4) (by decide +kernel) rfl rfl rfl (by decide +kernel)
set_option maxRecDepth 65536 in
theorem w_c8 : (Jvm.Cond.code ({ cls := "StreamSigScanner", name := "clearAutomaton", desc := "()V" } : Jvm.MethodName) prog_1_method_6_code (2 : Nat) (Option.none : Option Jvm.ClassFile.FieldType)).before args0 about1 = true := code_word (m := ⟨2, 5⟩) (meth := k2m5) (c := k2c5) (by decide +kernel) rfl rfl rfl (by decide +kernel)
set_option maxRecDepth 65536 in
theorem w_c9 : (Jvm.Cond.code ({ cls := "StreamSigScanner", name := "insertSig", desc := "(I)V" } : Jvm.MethodName) prog_1_method_7_code (8 : Nat) (Option.none : Option Jvm.ClassFile.FieldType)).before args0 about1 = true := code_word (m := ⟨2, 6⟩) (meth := k2m6) (c := k2c6) (by decide +kernel) rfl rfl rfl (by decide +kernel)
set_option maxRecDepth 65536 in
theorem w_c10 : (Jvm.Cond.code ({ cls := "StreamSigScanner", name := "buildAutomaton", desc := "()V" } : Jvm.MethodName) prog_1_method_8_code (9 : Nat) (Option.none : Option Jvm.ClassFile.FieldType)).before args0 about1 = true := code_word (m := ⟨2, 7⟩) (meth := k2m7) (c := k2c7) (by decide +kernel) rfl rfl rfl (by decide +kernel)
set_option maxRecDepth 65536 in
theorem w_c11 : (Jvm.Cond.code ({ cls := "StreamSigScanner", name := "openSegment", desc := "(I)I" } : Jvm.MethodName) prog_1_method_9_code (2 : Nat) (Option.some Jvm.ClassFile.FieldType.int)).before args0 about1 = true := code_word (m := ⟨2, 8⟩) (meth := k2m8) (c := k2c8) (by decide +kernel) rfl rfl rfl (by decide +kernel)
set_option maxRecDepth 65536 in
theorem w_c12 : (Jvm.Cond.code ({ cls := "StreamSigScanner", name := "isOffset", desc := "(I)Z" } : Jvm.MethodName) prog_1_method_23_code (2 : Nat) (Option.some Jvm.ClassFile.FieldType.boolean)).before args0 about1 = true := code_word (m := ⟨2, 19⟩) (meth := k2m19) (c := k2c19) (by decide +kernel) rfl rfl rfl (by decide +kernel)
set_option maxRecDepth 65536 in
theorem w_c13 : (Jvm.Cond.code ({ cls := "StreamSigScanner", name := "segByte", desc := "(I)I" } : Jvm.MethodName) prog_1_method_10_code (2 : Nat) (Option.some Jvm.ClassFile.FieldType.int)).before args0 about1 = true := code_word (m := ⟨2, 9⟩) (meth := k2m9) (c := k2c9) (by decide +kernel) rfl rfl rfl (by decide +kernel)
set_option maxRecDepth 65536 in
theorem w_c14 : (Jvm.Cond.code ({ cls := "StreamSigScanner", name := "closeSegment", desc := "()I" } : Jvm.MethodName) prog_1_method_11_code (3 : Nat) (Option.some Jvm.ClassFile.FieldType.int)).before args0 about1 = true := code_word (m := ⟨2, 10⟩) (meth := k2m10) (c := k2c10) (by decide +kernel) rfl rfl rfl (by decide +kernel)
set_option maxRecDepth 65536 in
theorem w_c15 : (Jvm.Cond.code ({ cls := "StreamSigScanner", name := "absorbByte", desc := "(III)V" } : Jvm.MethodName) prog_1_method_12_code (4 : Nat) (Option.none : Option Jvm.ClassFile.FieldType)).before args0 about1 = true := code_word (m := ⟨2, 11⟩) (meth := k2m11) (c := k2c11) (by decide +kernel) rfl rfl rfl (by decide +kernel)
set_option maxRecDepth 65536 in
theorem w_c16 : (Jvm.Cond.code ({ cls := "StreamSigScanner", name := "advanceDelivered", desc := "()V" } : Jvm.MethodName) prog_1_method_13_code (4 : Nat) (Option.none : Option Jvm.ClassFile.FieldType)).before args0 about1 = true := code_word (m := ⟨2, 12⟩) (meth := k2m12) (c := k2c12) (by decide +kernel) rfl rfl rfl (by decide +kernel)
set_option maxRecDepth 65536 in
theorem w_c17 : (Jvm.Cond.code ({ cls := "StreamSigScanner", name := "stat", desc := "(I)I" } : Jvm.MethodName) prog_1_method_16_code (2 : Nat) (Option.some Jvm.ClassFile.FieldType.int)).before args0 about1 = true := code_word (m := ⟨2, 15⟩) (meth := k2m15) (c := k2c15) (by decide +kernel) rfl rfl rfl (by decide +kernel)
set_option maxRecDepth 65536 in
theorem w_c18 : (Jvm.Cond.code ({ cls := "StreamSigScanner", name := "feed", desc := "(II)V" } : Jvm.MethodName) prog_1_method_14_code (7 : Nat) (Option.none : Option Jvm.ClassFile.FieldType)).before args0 about1 = true := code_word (m := ⟨2, 13⟩) (meth := k2m13) (c := k2c13) (by decide +kernel) rfl rfl rfl (by decide +kernel)
set_option maxRecDepth 65536 in
theorem w_c19 : (Jvm.Cond.code ({ cls := "StreamSigScanner", name := "recordMatch", desc := "(II)V" } : Jvm.MethodName) prog_1_method_15_code (3 : Nat) (Option.none : Option Jvm.ClassFile.FieldType)).before args0 about1 = true := code_word (m := ⟨2, 14⟩) (meth := k2m14) (c := k2c14) (by decide +kernel) rfl rfl rfl (by decide +kernel)
set_option maxRecDepth 65536 in
theorem w_c20 : (Jvm.Cond.code ({ cls := "StreamSigScannerL3", name := "at", desc := "(IIIII)I" } : Jvm.MethodName) method_2_code (5 : Nat) (Option.some Jvm.ClassFile.FieldType.int)).before args0 about1 = true := code_word (m := ⟨1, 1⟩) (meth := k1m1) (c := k1c1) (by decide +kernel) rfl rfl rfl (by decide +kernel)
set_option maxRecDepth 65536 in
theorem w_c21 : (Jvm.Cond.code ({ cls := "StreamSigScanner", name := "matchSig", desc := "(I)I" } : Jvm.MethodName) prog_1_method_20_code (2 : Nat) (Option.some Jvm.ClassFile.FieldType.int)).before args0 about1 = true := code_word (m := ⟨2, 16⟩) (meth := k2m16) (c := k2c16) (by decide +kernel) rfl rfl rfl (by decide +kernel)
set_option maxRecDepth 65536 in
theorem w_c22 : (Jvm.Cond.code ({ cls := "StreamSigScanner", name := "validRecord", desc := "(I)Z" } : Jvm.MethodName) prog_1_method_25_code (3 : Nat) (Option.some Jvm.ClassFile.FieldType.boolean)).before args0 about1 = true := code_word (m := ⟨2, 20⟩) (meth := k2m20) (c := k2c20) (by decide +kernel) rfl rfl rfl (by decide +kernel)
set_option maxRecDepth 65536 in
theorem w_c23 : (Jvm.Cond.code ({ cls := "StreamSigScanner", name := "matchEnd", desc := "(I)I" } : Jvm.MethodName) prog_1_method_21_code (2 : Nat) (Option.some Jvm.ClassFile.FieldType.int)).before args0 about1 = true := code_word (m := ⟨2, 17⟩) (meth := k2m17) (c := k2c17) (by decide +kernel) rfl rfl rfl (by decide +kernel)
def codes1 : List Jvm.Cond := [Jvm.Cond.code x code maxLocals ret, Jvm.Cond.code ({ cls := "StreamSigScanner", name := "<init>", desc := "(I)V" } : Jvm.MethodName) prog_1_method_1_code (3 : Nat) (Option.none : Option Jvm.ClassFile.FieldType), Jvm.Cond.code ({ cls := "java/lang/Object", name := "<init>", desc := "()V" } : Jvm.MethodName) object_method_1_code (1 : Nat) (Option.none : Option Jvm.ClassFile.FieldType), Jvm.Cond.code ({ cls := "StreamSigScanner", name := "addSigByte", desc := "(I)I" } : Jvm.MethodName) prog_1_method_2_code (3 : Nat) (Option.some Jvm.ClassFile.FieldType.int), Jvm.Cond.code ({ cls := "StreamSigScanner", name := "isByte", desc := "(I)Z" } : Jvm.MethodName) prog_1_method_22_code (2 : Nat) (Option.some Jvm.ClassFile.FieldType.boolean), Jvm.Cond.code ({ cls := "StreamSigScanner", name := "endSig", desc := "()I" } : Jvm.MethodName) prog_1_method_3_code (2 : Nat) (Option.some Jvm.ClassFile.FieldType.int), Jvm.Cond.code ({ cls := "StreamSigScanner", name := "compile", desc := "()I" } : Jvm.MethodName) prog_1_method_4_code (1 : Nat) (Option.some Jvm.ClassFile.FieldType.int), Jvm.Cond.code ({ cls := "StreamSigScanner", name := "buildTrie", desc := "()V" } : Jvm.MethodName) prog_1_method_5_code (2 : Nat) (Option.none : Option Jvm.ClassFile.FieldType), Jvm.Cond.code ({ cls := "StreamSigScanner", name := "clearAutomaton", desc := "()V" } : Jvm.MethodName) prog_1_method_6_code (2 : Nat) (Option.none : Option Jvm.ClassFile.FieldType), Jvm.Cond.code ({ cls := "StreamSigScanner", name := "insertSig", desc := "(I)V" } : Jvm.MethodName) prog_1_method_7_code (8 : Nat) (Option.none : Option Jvm.ClassFile.FieldType), Jvm.Cond.code ({ cls := "StreamSigScanner", name := "buildAutomaton", desc := "()V" } : Jvm.MethodName) prog_1_method_8_code (9 : Nat) (Option.none : Option Jvm.ClassFile.FieldType), Jvm.Cond.code ({ cls := "StreamSigScanner", name := "openSegment", desc := "(I)I" } : Jvm.MethodName) prog_1_method_9_code (2 : Nat) (Option.some Jvm.ClassFile.FieldType.int), Jvm.Cond.code ({ cls := "StreamSigScanner", name := "isOffset", desc := "(I)Z" } : Jvm.MethodName) prog_1_method_23_code (2 : Nat) (Option.some Jvm.ClassFile.FieldType.boolean), Jvm.Cond.code ({ cls := "StreamSigScanner", name := "segByte", desc := "(I)I" } : Jvm.MethodName) prog_1_method_10_code (2 : Nat) (Option.some Jvm.ClassFile.FieldType.int), Jvm.Cond.code ({ cls := "StreamSigScanner", name := "closeSegment", desc := "()I" } : Jvm.MethodName) prog_1_method_11_code (3 : Nat) (Option.some Jvm.ClassFile.FieldType.int), Jvm.Cond.code ({ cls := "StreamSigScanner", name := "absorbByte", desc := "(III)V" } : Jvm.MethodName) prog_1_method_12_code (4 : Nat) (Option.none : Option Jvm.ClassFile.FieldType), Jvm.Cond.code ({ cls := "StreamSigScanner", name := "advanceDelivered", desc := "()V" } : Jvm.MethodName) prog_1_method_13_code (4 : Nat) (Option.none : Option Jvm.ClassFile.FieldType), Jvm.Cond.code ({ cls := "StreamSigScanner", name := "stat", desc := "(I)I" } : Jvm.MethodName) prog_1_method_16_code (2 : Nat) (Option.some Jvm.ClassFile.FieldType.int), Jvm.Cond.code ({ cls := "StreamSigScanner", name := "feed", desc := "(II)V" } : Jvm.MethodName) prog_1_method_14_code (7 : Nat) (Option.none : Option Jvm.ClassFile.FieldType), Jvm.Cond.code ({ cls := "StreamSigScanner", name := "recordMatch", desc := "(II)V" } : Jvm.MethodName) prog_1_method_15_code (3 : Nat) (Option.none : Option Jvm.ClassFile.FieldType), Jvm.Cond.code ({ cls := "StreamSigScannerL3", name := "at", desc := "(IIIII)I" } : Jvm.MethodName) method_2_code (5 : Nat) (Option.some Jvm.ClassFile.FieldType.int), Jvm.Cond.code ({ cls := "StreamSigScanner", name := "matchSig", desc := "(I)I" } : Jvm.MethodName) prog_1_method_20_code (2 : Nat) (Option.some Jvm.ClassFile.FieldType.int), Jvm.Cond.code ({ cls := "StreamSigScanner", name := "validRecord", desc := "(I)Z" } : Jvm.MethodName) prog_1_method_25_code (3 : Nat) (Option.some Jvm.ClassFile.FieldType.boolean), Jvm.Cond.code ({ cls := "StreamSigScanner", name := "matchEnd", desc := "(I)I" } : Jvm.MethodName) prog_1_method_21_code (2 : Nat) (Option.some Jvm.ClassFile.FieldType.int)]
set_option maxRecDepth 65536 in
theorem codes_eq : words1.filter isCode = codes1 := rfl
theorem w_codes : ∀ c ∈ words1.filter isCode, c.before args0 about1 = true := by
  rw [codes_eq]
  intro c hc
  simp only [codes1, List.mem_cons, List.not_mem_nil, or_false] at hc
  rcases hc with rfl | rfl | rfl | rfl | rfl | rfl | rfl | rfl | rfl | rfl | rfl | rfl | rfl | rfl | rfl | rfl | rfl | rfl | rfl | rfl | rfl | rfl | rfl | rfl
  · exact w_c0
  · exact w_c1
  · exact w_c2
  · exact w_c3
  · exact w_c4
  · exact w_c5
  · exact w_c6
  · exact w_c7
  · exact w_c8
  · exact w_c9
  · exact w_c10
  · exact w_c11
  · exact w_c12
  · exact w_c13
  · exact w_c14
  · exact w_c15
  · exact w_c16
  · exact w_c17
  · exact w_c18
  · exact w_c19
  · exact w_c20
  · exact w_c21
  · exact w_c22
  · exact w_c23
set_option maxRecDepth 65536 in
theorem w_t1 : (words1.take 24).all (fun c => isCode c || c.before args0 about1) = true := by decide +kernel
set_option maxRecDepth 65536 in
theorem w_t2 : ((words1.drop 24).take 24).all (fun c => isCode c || c.before args0 about1) = true := by decide +kernel
set_option maxRecDepth 65536 in
theorem w_t3 : (((words1.drop 24).drop 24).take 24).all (fun c => isCode c || c.before args0 about1) = true := by decide +kernel
set_option maxRecDepth 65536 in
theorem w_t4 : ((((words1.drop 24).drop 24).drop 24).take 24).all (fun c => isCode c || c.before args0 about1) = true := by decide +kernel
set_option maxRecDepth 65536 in
theorem w_t5 : (((((words1.drop 24).drop 24).drop 24).drop 24).take 24).all (fun c => isCode c || c.before args0 about1) = true := by decide +kernel
set_option maxRecDepth 65536 in
theorem w_t6 : ((((((words1.drop 24).drop 24).drop 24).drop 24).drop 24).take 24).all (fun c => isCode c || c.before args0 about1) = true := by decide +kernel
set_option maxRecDepth 65536 in
theorem w_t7 : ((((((words1.drop 24).drop 24).drop 24).drop 24).drop 24).drop 24).all (fun c => isCode c || c.before args0 about1) = true := by decide +kernel
theorem w_tables : (allAtoms (Jvm.Cond.code x code maxLocals ret :: tables_1)).before args0 about1 = true := by
  rw [allAtoms_all]
  show words1.all (fun c => c.before args0 about1) = true
  refine all_split ?_ w_codes
  rw [← List.take_append_drop 24 words1, List.all_append, w_t1, ← List.take_append_drop 24 (words1.drop 24), List.all_append, w_t2, ← List.take_append_drop 24 ((words1.drop 24).drop 24), List.all_append, w_t3, ← List.take_append_drop 24 (((words1.drop 24).drop 24).drop 24), List.all_append, w_t4, ← List.take_append_drop 24 ((((words1.drop 24).drop 24).drop 24).drop 24), List.all_append, w_t5, ← List.take_append_drop 24 (((((words1.drop 24).drop 24).drop 24).drop 24).drop 24), List.all_append, w_t6, w_t7]
  rfl
set_option maxRecDepth 65536 in
theorem w_case : (Jvm.Cond.and given_1 narrow_1).before args0 about1 = true := by decide +kernel
theorem w_applies : (headSpec (Jvm.Cond.code x code maxLocals ret :: tables_1) room_1).applies x e0.platform about1 = true :=
  (Spec.applies_iff w_frames).mpr ⟨w_running, w_runnable, w_alone, w_named, w_hears, w_ripe, w_room, w_tables⟩
theorem atStart : AtStart classFile x code maxLocals ret World_1 tables_1 room_1 Calls_1 rest_1 Pre_1 launch0 p0 e0 about1 theMethod args0 below0 :=
  ⟨lists_1, trivial, launch0.admits_env _ _ _, launch0.least_env, fairChoices_fair.cas, fairChoices_fair.clock, w_frames, w_args, w_heap, w_applies, trivial, trivial, w_case⟩
end start1
theorem witness_1 : WitnessClaimed_1 := ⟨start1.p0, start1.e0, start1.about1, start1.theMethod, start1.args0, start1.below0, start1.atStart⟩
end Jvm.Pilot.@@N@@
