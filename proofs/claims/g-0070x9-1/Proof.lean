import JvmDerived
import JvmDerived.Pilot.@@N@@Statement
import JvmDerived.Pilot.@@N@@Code
set_option linter.unusedVariables false
set_option linter.unusedSimpArgs false
namespace Jvm.Own
open Sem ClassFile Op Lib Jvm.Stand Jvm.Free Jvm.LawKit Jvm.RoadKit
/-! OWN 1: words of the sheet, resolved -/
abbrev AHeap := List (FieldType × List Value)
abbrev Ws := List Jvm.Cond
def rFld (ws : Ws) (own : String) (i : Nat) : Option (String × String × String) :=
  ws.findSome? fun d => match d with
    | .fieldLink o j C n t => if o = own ∧ j = i then some (C, n, t) else none
    | _ => none
def rCls (ws : Ws) (own : String) (i : Nat) : Option String :=
  ws.findSome? fun d => match d with
    | .classLink o j C => if o = own ∧ j = i then some C else none
    | _ => none
def rMth (ws : Ws) (own : String) (i : Nat) : Option MethodName :=
  ws.findSome? fun d => match d with
    | .methodLink o j y => if o = own ∧ j = i then some y else none
    | _ => none
def rCon (ws : Ws) (own : String) (i : Nat) : Option Int32 :=
  ws.findSome? fun d => match d with
    | .constant o j v => if o = own ∧ j = i then some v else none
    | _ => none
def rConL (ws : Ws) (own : String) (i : Nat) : Option Int64 :=
  ws.findSome? fun d => match d with
    | .constantLong o j v => if o = own ∧ j = i then some v else none
    | _ => none
def rInst (ws : Ws) (C : String) : Option Nat :=
  ws.findSome? fun d => match d with
    | .instantiable c n => if c = C then some n else none
    | _ => none
def rCode (ws : Ws) (y : MethodName) : Option (ByteArray × Nat × Option FieldType) :=
  ws.findSome? fun d => match d with
    | .code z b m r => if z = y then some (b, m, r) else none
    | _ => none
def hasInit (ws : Ws) (C : String) : Bool := ws.any fun d => match d with | .initialized c => c == C | _ => false
def hasArr (ws : Ws) (t : FieldType) : Bool := ws.any fun d => match d with | .arrayClass c => decide (c = t) | _ => false
def hasStat (ws : Ws) (y : MethodName) : Bool := ws.any fun d => match d with | .static z => decide (z = y) | _ => false
def hasIM (ws : Ws) (y : MethodName) : Bool := ws.any fun d => match d with | .instanceMethod z => decide (z = y) | _ => false
def hasPriv (ws : Ws) (y : MethodName) : Bool := ws.any fun d => match d with | .privateMethod z => decide (z = y) | _ => false
def hasDecl (ws : Ws) (y : MethodName) : Bool := ws.any fun d => match d with | .declares z => decide (z = y) | _ => false
def hasSel (ws : Ws) (y : MethodName) : Bool := ws.any fun d => match d with | .selects c z z' => decide (c = y.cls ∧ z = y ∧ z' = y) | _ => false
def hasLays (ws : Ws) (C n t : String) : Bool := ws.any fun d => match d with | .lays c o n' t' => decide (c = C ∧ o = C ∧ n' = n ∧ t' = t) | _ => false
def hasLaysF (ws : Ws) (C n t : String) : Bool := ws.any fun d => match d with | .laysFinal c o n' t' => decide (c = C ∧ o = C ∧ n' = n ∧ t' = t) | _ => false
def layE (C : String) : Jvm.Cond → Option (String × String)
  | .lays c o n t => if c = C ∧ o = C ∧ (parseFieldDescriptor t).isSome = true then some (n, t) else none
  | .laysFinal c o n t => if c = C ∧ o = C ∧ (parseFieldDescriptor t).isSome = true then some (n, t) else none
  | _ => none
def olay (ws : Ws) (C : String) : List (String × String) := ws.filterMap (layE C)
def idx (x : String × String) : List (String × String) → Option Nat
  | [] => none
  | y :: r => if y = x then some 0 else (idx x r).map (· + 1)
def fidx (ws : Ws) (C n t : String) : Option Nat := idx (n, t) (olay ws C)
def gfR (ws : Ws) (own : String) (i : Nat) : Option (String × Nat) :=
  match rFld ws own i with
  | some (C, n, t) => (fidx ws C n t).map fun j => (C, j)
  | none => none
def pfR (ws : Ws) (own mn : String) (i : Nat) : Option (String × Nat × FieldType) :=
  match rFld ws own i with
  | some (C, n, t) =>
    match fidx ws C n t, parseFieldDescriptor t with
    | some j, some ty => if (hasLays ws C n t || (hasLaysF ws C n t && own == C && mn == "<init>")) && (rInst ws C).isSome && (olay ws C).all (fun q => q.1 != n || q.2 == t) then some (C, j, ty) else none
    | _, _ => none
  | none => none
section Res
variable {ws : Ws} {own C n t : String} {i : Nat} {y : MethodName}
theorem rFld_mem (h : rFld ws own i = some (C, n, t)) : Jvm.Cond.fieldLink own i C n t ∈ ws := by
  obtain ⟨d, hd, e⟩ := List.exists_of_findSome?_eq_some h
  split at e
  · split at e
    · rename_i q; obtain ⟨rfl, rfl⟩ := q; cases e; exact hd
    · cases e
  · cases e
theorem rCls_mem (h : rCls ws own i = some C) : Jvm.Cond.classLink own i C ∈ ws := by
  obtain ⟨d, hd, e⟩ := List.exists_of_findSome?_eq_some h
  split at e
  · split at e
    · rename_i q; obtain ⟨rfl, rfl⟩ := q; cases e; exact hd
    · cases e
  · cases e
theorem rMth_mem (h : rMth ws own i = some y) : Jvm.Cond.methodLink own i y ∈ ws := by
  obtain ⟨d, hd, e⟩ := List.exists_of_findSome?_eq_some h
  split at e
  · split at e
    · rename_i q; obtain ⟨rfl, rfl⟩ := q; cases e; exact hd
    · cases e
  · cases e
theorem rCon_mem {v : Int32} (h : rCon ws own i = some v) : Jvm.Cond.constant own i v ∈ ws := by
  obtain ⟨d, hd, e⟩ := List.exists_of_findSome?_eq_some h
  split at e
  · split at e
    · rename_i q; obtain ⟨rfl, rfl⟩ := q; cases e; exact hd
    · cases e
  · cases e
theorem rConL_mem {v : Int64} (h : rConL ws own i = some v) : Jvm.Cond.constantLong own i v ∈ ws := by
  obtain ⟨d, hd, e⟩ := List.exists_of_findSome?_eq_some h
  split at e
  · split at e
    · rename_i q; obtain ⟨rfl, rfl⟩ := q; cases e; exact hd
    · cases e
  · cases e
theorem rInst_mem {k : Nat} (h : rInst ws C = some k) : Jvm.Cond.instantiable C k ∈ ws := by
  obtain ⟨d, hd, e⟩ := List.exists_of_findSome?_eq_some h
  split at e
  · split at e
    · rename_i q; subst q; cases e; exact hd
    · cases e
  · cases e
theorem rCode_mem {b : ByteArray} {k : Nat} {r : Option FieldType} (h : rCode ws y = some (b, k, r)) : Jvm.Cond.code y b k r ∈ ws := by
  obtain ⟨d, hd, e⟩ := List.exists_of_findSome?_eq_some h
  split at e
  · split at e
    · rename_i q; subst q; cases e; exact hd
    · cases e
  · cases e
theorem hasInit_mem (h : hasInit ws C = true) : Jvm.Cond.initialized C ∈ ws := by
  obtain ⟨d, hd, e⟩ := List.any_eq_true.mp h
  split at e
  · rw [beq_iff_eq] at e; subst e; exact hd
  · cases e
theorem hasArr_mem {ty : FieldType} (h : hasArr ws ty = true) : Jvm.Cond.arrayClass ty ∈ ws := by
  obtain ⟨d, hd, e⟩ := List.any_eq_true.mp h
  split at e
  · have e := of_decide_eq_true e; subst e; exact hd
  · cases e
theorem hasStat_mem (h : hasStat ws y = true) : Jvm.Cond.static y ∈ ws := by
  obtain ⟨d, hd, e⟩ := List.any_eq_true.mp h
  split at e
  · have e := of_decide_eq_true e; subst e; exact hd
  · cases e
theorem hasIM_mem (h : hasIM ws y = true) : Jvm.Cond.instanceMethod y ∈ ws := by
  obtain ⟨d, hd, e⟩ := List.any_eq_true.mp h
  split at e
  · have e := of_decide_eq_true e; subst e; exact hd
  · cases e
theorem hasPriv_mem (h : hasPriv ws y = true) : Jvm.Cond.privateMethod y ∈ ws := by
  obtain ⟨d, hd, e⟩ := List.any_eq_true.mp h
  split at e
  · have e := of_decide_eq_true e; subst e; exact hd
  · cases e
theorem hasDecl_mem (h : hasDecl ws y = true) : Jvm.Cond.declares y ∈ ws := by
  obtain ⟨d, hd, e⟩ := List.any_eq_true.mp h
  split at e
  · have e := of_decide_eq_true e; subst e; exact hd
  · cases e
theorem hasSel_mem (h : hasSel ws y = true) : Jvm.Cond.selects y.cls y y ∈ ws := by
  obtain ⟨d, hd, e⟩ := List.any_eq_true.mp h
  split at e
  · obtain ⟨rfl, rfl, rfl⟩ := of_decide_eq_true e; exact hd
  · cases e
theorem hasLays_mem (h : hasLays ws C n t = true) : Jvm.Cond.lays C C n t ∈ ws := by
  obtain ⟨d, hd, e⟩ := List.any_eq_true.mp h
  split at e
  · obtain ⟨rfl, rfl, rfl, rfl⟩ := of_decide_eq_true e; exact hd
  · cases e
theorem hasLaysF_mem (h : hasLaysF ws C n t = true) : Jvm.Cond.laysFinal C C n t ∈ ws := by
  obtain ⟨d, hd, e⟩ := List.any_eq_true.mp h
  split at e
  · obtain ⟨rfl, rfl, rfl, rfl⟩ := of_decide_eq_true e; exact hd
  · cases e
theorem lay_mem (h : (n, t) ∈ olay ws C) : (Jvm.Cond.lays C C n t ∈ ws ∨ Jvm.Cond.laysFinal C C n t ∈ ws) ∧ ∃ ty, parseFieldDescriptor t = some ty := by
  obtain ⟨d, hd, e⟩ := List.mem_filterMap.mp h
  unfold layE at e
  split at e
  · split at e
    · rename_i q; obtain ⟨rfl, rfl, q⟩ := q; cases e; exact ⟨Or.inl hd, Option.isSome_iff_exists.mp q⟩
    · cases e
  · split at e
    · rename_i q; obtain ⟨rfl, rfl, q⟩ := q; cases e; exact ⟨Or.inr hd, Option.isSome_iff_exists.mp q⟩
    · cases e
  · cases e
theorem idx_get {x : String × String} : ∀ {l : List (String × String)} {j : Nat}, idx x l = some j → l[j]? = some x
  | [], _, h => by cases h
  | y :: r, j, h => by
    unfold idx at h
    split at h
    · rename_i q; cases h; simp [q]
    · obtain ⟨j', h', rfl⟩ := Option.map_eq_some_iff.mp h
      simpa using idx_get h'
theorem fidx_mem {j : Nat} (h : fidx ws C n t = some j) : (n, t) ∈ olay ws C := List.mem_of_getElem? (idx_get h)
theorem fidx_inj {n' t' : String} {j : Nat} (h : fidx ws C n t = some j) (h' : fidx ws C n' t' = some j) : n = n' ∧ t = t' := by
  have := (idx_get h).symm.trans (idx_get h')
  simpa using this
theorem gfR_some {j : Nat} (h : gfR ws own i = some (C, j)) : ∃ n t, rFld ws own i = some (C, n, t) ∧ fidx ws C n t = some j := by
  unfold gfR at h
  split at h
  · rename_i C' n' t' q
    obtain ⟨j', h', e⟩ := Option.map_eq_some_iff.mp h
    cases e; exact ⟨_, _, q, h'⟩
  · cases h
theorem pfR_some {mn : String} {j : Nat} {ty : FieldType} (h : pfR ws own mn i = some (C, j, ty)) : ∃ n t, rFld ws own i = some (C, n, t) ∧ fidx ws C n t = some j ∧ parseFieldDescriptor t = some ty ∧
    (Jvm.Cond.lays C C n t ∈ ws ∨ (Jvm.Cond.laysFinal C C n t ∈ ws ∧ own = C ∧ mn = "<init>")) ∧ (∃ k, Jvm.Cond.instantiable C k ∈ ws) ∧ ∀ n' t', (n', t') ∈ olay ws C → n' ≠ n ∨ t' = t := by
  unfold pfR at h
  split at h
  · rename_i C' n' t' q
    split at h
    · rename_i j' ty' q1 q2
      split at h
      · rename_i g
        cases h
        simp only [Bool.and_eq_true, Bool.or_eq_true, beq_iff_eq, List.all_eq_true, bne_iff_ne, ne_eq] at g
        obtain ⟨⟨g1, g2⟩, g3⟩ := g
        obtain ⟨k, hk⟩ := Option.isSome_iff_exists.mp g2
        refine ⟨n', t', q, q1, q2, ?_, ⟨k, rInst_mem hk⟩, fun a b hab => g3 (a, b) hab⟩
        rcases g1 with g1 | ⟨⟨g1, g4⟩, g5⟩
        · exact Or.inl (hasLays_mem g1)
        · exact Or.inr ⟨hasLaysF_mem g1, g4, g5⟩
      · cases h
    · cases h
  · cases h
end Res
end Jvm.Own
namespace Jvm.Own
open Sem ClassFile Op Lib Jvm.Stand Jvm.Free Jvm.LawKit Jvm.RoadKit
/-! OWN 2: the abstract machine -/
abbrev XR := Option (Nat × List Slot × List Value)
def chk {α : Type} (a b : Nat) (x : Option α) : Option α := if a = b then x else none
def isI : Value → Bool | .int _ => true | _ => false
def isL : Value → Bool | .long _ => true | _ => false
def stl (ls : List Slot) (i : Nat) (v : Value) : Option (List Slot) := (storeLocals ls.toArray i v).map Array.toList
def ldV (p : Value → Bool) (nx i : Nat) (ls : List Slot) (st : List Value) : XR :=
  match ls[i]? with
  | some (.val v) => if p v = true then some (nx, ls, v :: st) else none
  | _ => none
def stV (p : Value → Bool) (nx i : Nat) (ls : List Slot) : List Value → XR
  | v :: r => if p v = true then (stl ls i v).map fun l' => (nx, l', r) else none
  | [] => none
def b2 (f : Int32 → Int32 → Int32) (nx : Nat) (ls : List Slot) : List Value → XR
  | .int y :: .int x :: r => some (nx, ls, .int (f x y) :: r)
  | _ => none
def d2 (f : Int32 → Int32 → Int32) (nx : Nat) (ls : List Slot) : List Value → XR
  | .int y :: .int x :: r => if y = 0 then none else some (nx, ls, .int (f x y) :: r)
  | _ => none
def u1 (f : Int32 → Int32) (nx : Nat) (ls : List Slot) : List Value → XR
  | .int x :: r => some (nx, ls, .int (f x) :: r)
  | _ => none
def l2 (f : Int64 → Int64 → Int64) (nx : Nat) (ls : List Slot) : List Value → XR
  | .long y :: .long x :: r => some (nx, ls, .long (f x y) :: r)
  | _ => none
def lsh (f : Int64 → Int32 → Int64) (nx : Nat) (ls : List Slot) : List Value → XR
  | .int y :: .long x :: r => some (nx, ls, .long (f x y) :: r)
  | _ => none
def jmp (pc : Nat) (o : Int) : Option Nat := if 0 ≤ (pc : Int) + o then some ((pc : Int) + o).toNat else none
def br (c : Bool) (pc : Nat) (o : Int) (ls : List Slot) (r : List Value) : XR :=
  if c = true then (jmp pc o).map fun q => (q, ls, r) else some (pc + 3, ls, r)
def sw (pc : Nat) (dflt low high : Int) (offs : Array Int) (ls : List Slot) : List Value → XR
  | .int i :: r => if i.toInt < low ∨ i.toInt > high then (jmp pc dflt).map fun q => (q, ls, r) else
      match offs[(i.toInt - low).toNat]? with
      | some o => (jmp pc o).map fun q => (q, ls, r)
      | none => none
  | _ => none
def xstep (ins : Instr) (len pc : Nat) (ls : List Slot) (st : List Value) : XR :=
  match ins with
  | .aload_n i => chk len 1 (ldV Value.isRef (pc + 1) i.val ls st)
  | .aload i => chk len 2 (ldV Value.isRef (pc + 2) i ls st)
  | .iload_n i => chk len 1 (ldV isI (pc + 1) i.val ls st)
  | .iload i => chk len 2 (ldV isI (pc + 2) i ls st)
  | .lload_n i => chk len 1 (ldV isL (pc + 1) i.val ls st)
  | .lload i => chk len 2 (ldV isL (pc + 2) i ls st)
  | .astore_n i => chk len 1 (stV Value.isRef (pc + 1) i.val ls st)
  | .astore i => chk len 2 (stV Value.isRef (pc + 2) i ls st)
  | .istore_n i => chk len 1 (stV isI (pc + 1) i.val ls st)
  | .istore i => chk len 2 (stV isI (pc + 2) i ls st)
  | .lstore_n i => chk len 1 (stV isL (pc + 1) i.val ls st)
  | .lstore i => chk len 2 (stV isL (pc + 2) i ls st)
  | .iconst i => chk len 1 (some (pc + 1, ls, .int (Int32.ofInt i) :: st))
  | .bipush i => chk len 2 (some (pc + 2, ls, .int (Int8.ofInt i).toInt32 :: st))
  | .sipush i => chk len 3 (some (pc + 3, ls, .int (Int16.ofInt i).toInt32 :: st))
  | .lconst i => chk len 1 (some (pc + 1, ls, .long (Int64.ofNat i) :: st))
  | .iadd => chk len 1 (b2 (fun x y => x + y) (pc + 1) ls st)
  | .isub => chk len 1 (b2 (fun x y => x - y) (pc + 1) ls st)
  | .imul => chk len 1 (b2 (fun x y => x * y) (pc + 1) ls st)
  | .iand => chk len 1 (b2 (fun x y => x &&& y) (pc + 1) ls st)
  | .ior => chk len 1 (b2 (fun x y => x ||| y) (pc + 1) ls st)
  | .ixor => chk len 1 (b2 (fun x y => x ^^^ y) (pc + 1) ls st)
  | .ishl => chk len 1 (b2 (fun x y => x <<< (y &&& 31)) (pc + 1) ls st)
  | .ishr => chk len 1 (b2 (fun x y => x >>> (y &&& 31)) (pc + 1) ls st)
  | .iushr => chk len 1 (b2 XT.ushr (pc + 1) ls st)
  | .idiv => chk len 1 (d2 (fun x y => x / y) (pc + 1) ls st)
  | .irem => chk len 1 (d2 (fun x y => x % y) (pc + 1) ls st)
  | .ineg => chk len 1 (u1 (fun x => -x) (pc + 1) ls st)
  | .i2b => chk len 1 (u1 (fun x => x.toInt8.toInt32) (pc + 1) ls st)
  | .i2c => chk len 1 (u1 (fun x => x.toUInt32.toUInt16.toUInt32.toInt32) (pc + 1) ls st)
  | .ladd => chk len 1 (l2 (fun x y => x + y) (pc + 1) ls st)
  | .lsub => chk len 1 (l2 (fun x y => x - y) (pc + 1) ls st)
  | .lmul => chk len 1 (l2 (fun x y => x * y) (pc + 1) ls st)
  | .land => chk len 1 (l2 (fun x y => x &&& y) (pc + 1) ls st)
  | .lor => chk len 1 (l2 (fun x y => x ||| y) (pc + 1) ls st)
  | .lxor => chk len 1 (l2 (fun x y => x ^^^ y) (pc + 1) ls st)
  | .lshl => chk len 1 (lsh (fun x y => x <<< (y.toInt64 &&& 63)) (pc + 1) ls st)
  | .lshr => chk len 1 (lsh (fun x y => x >>> (y.toInt64 &&& 63)) (pc + 1) ls st)
  | .lushr => chk len 1 (lsh XT.ushrL (pc + 1) ls st)
  | .lneg => chk len 1 (match st with | .long x :: r => some (pc + 1, ls, .long (-x) :: r) | _ => none)
  | .i2l => chk len 1 (match st with | .int x :: r => some (pc + 1, ls, .long x.toInt64 :: r) | _ => none)
  | .l2i => chk len 1 (match st with | .long x :: r => some (pc + 1, ls, .int x.toInt32 :: r) | _ => none)
  | .lcmp => chk len 1 (match st with | .long y :: .long x :: r => some (pc + 1, ls, .int (XT.cmpL x y) :: r) | _ => none)
  | .iinc i cst => chk len 3 (match ls[i]? with | some (.val (.int x)) => (stl ls i (.int (x + Int32.ofInt cst))).map fun l' => (pc + 3, l', st) | _ => none)
  | .dup => chk len 1 (match st with | x :: r => if x.category = 1 then some (pc + 1, ls, x :: x :: r) else none | _ => none)
  | .dup2 => chk len 1 (match st with
      | .long x :: r => some (pc + 1, ls, .long x :: .long x :: r)
      | x :: y :: r => if x.category = 1 ∧ y.category = 1 then some (pc + 1, ls, x :: y :: x :: y :: r) else none
      | _ => none)
  | .pop => chk len 1 (match st with | x :: r => if x.category = 1 then some (pc + 1, ls, r) else none | _ => none)
  | .goto o => chk len 3 ((jmp pc o).map fun q => (q, ls, st))
  | .ifCond cd o => chk len 3 (match st with | .int x :: r => br (ifCond.holds cd x) pc o ls r | _ => none)
  | .if_icmp cd o => chk len 3 (match st with | .int y :: .int x :: r => br (if_icmp.holds cd x y) pc o ls r | _ => none)
  | .tableswitch dflt low high offs => sw pc dflt low high offs ls st
  | _ => none
abbrev HR := Option (Nat × List Value × AHeap)
def putv : FieldType → Value → Option Value
  | .int, .int x => some (.int x)
  | .boolean, .int x => some (.int (nar .boolean x))
  | .byte, .int x => some (.int (nar .byte x))
  | .char, .int x => some (.int (nar .char x))
  | .short, .int x => some (.int (nar .short x))
  | .long, .long x => some (.long x)
  | .array _, .ref a => some (.ref a)
  | _, _ => none
def dflt (q : String × String) : Value := match parseFieldDescriptor q.2 with | some ty => defaultValue ty | none => .null
def hGet (ws : Ws) (own : String) (i pc : Nat) (H : AHeap) : List Value → HR
  | .ref a :: r =>
    match gfR ws own i, H[a]? with
    | some (C, j), some (.object C', vs) => if C = C' then (vs[j]?).map fun v => (pc + 3, v :: r, H) else none
    | _, _ => none
  | _ => none
def hPut (ws : Ws) (k : Nat) (own mn : String) (i pc : Nat) (H : AHeap) : List Value → HR
  | v :: .ref a :: r =>
    match pfR ws own mn i, H[a]? with
    | some (C, j, ty), some (.object C', vs) => if C = C' ∧ k ≤ a ∧ j < vs.length then (putv ty v).map fun v' => (pc + 3, r, H.set a (.object C', vs.set j v')) else none
    | _, _ => none
  | _ => none
def hNew (ws : Ws) (own : String) (i pc : Nat) (H : AHeap) (st : List Value) : HR :=
  match rCls ws own i with
  | some C => if (rInst ws C).isSome = true ∧ hasInit ws C = true then some (pc + 3, .ref H.length :: st, H ++ [(.object C, (olay ws C).map dflt)]) else none
  | none => none
def hNewA (ws : Ws) (aty : ArrayType) (pc : Nat) (H : AHeap) : List Value → HR
  | .int n :: r => if hasArr ws (newarray.typeOf aty) = true ∧ ¬ n < 0 ∧ n.toNatClampNeg * 8 ≤ 536870912 then
      some (pc + 2, .ref H.length :: r, H ++ [(.array (newarray.typeOf aty), List.replicate n.toNatClampNeg (defaultValue (newarray.typeOf aty)))]) else none
  | _ => none
def hLd (ok : FieldType → Bool) (pc : Nat) (H : AHeap) : List Value → HR
  | .int j :: .ref a :: r =>
    match H[a]? with
    | some (.array ty, vs) => if ok ty = true ∧ ¬ j < 0 then (vs[j.toNatClampNeg]?).map fun v => (pc + 1, v :: r, H) else none
    | _ => none
  | _ => none
def hSt (ok : FieldType → Bool) (k pc : Nat) (H : AHeap) : List Value → HR
  | v :: .int j :: .ref a :: r =>
    match H[a]? with
    | some (.array ty, vs) => if ok ty = true ∧ k ≤ a ∧ ¬ j < 0 ∧ j.toNatClampNeg < vs.length then (putv ty v).map fun v' => (pc + 1, r, H.set a (.array ty, vs.set j.toNatClampNeg v')) else none
    | _ => none
  | _ => none
def hLen (pc : Nat) (H : AHeap) : List Value → HR
  | .ref a :: r =>
    match H[a]? with
    | some (.array _, vs) => some (pc + 1, .int vs.length.toInt32 :: r, H)
    | _ => none
  | _ => none
def okT (t u : FieldType) : Bool := decide (u = t)
def okB (u : FieldType) : Bool := decide (u = .byte) || decide (u = .boolean)
def hstep (ws : Ws) (k : Nat) (y : MethodName) (ins : Instr) (len pc : Nat) (st : List Value) (H : AHeap) : HR :=
  match ins with
  | .getfield i => chk len 3 (hGet ws y.cls i pc H st)
  | .putfield i => chk len 3 (hPut ws k y.cls y.name i pc H st)
  | .new i => chk len 3 (hNew ws y.cls i pc H st)
  | .newarray aty => chk len 2 (hNewA ws aty pc H st)
  | .iaload => chk len 1 (hLd (okT .int) pc H st)
  | .caload => chk len 1 (hLd (okT .char) pc H st)
  | .laload => chk len 1 (hLd (okT .long) pc H st)
  | .baload => chk len 1 (hLd okB pc H st)
  | .iastore => chk len 1 (hSt (okT .int) k pc H st)
  | .castore => chk len 1 (hSt (okT .char) k pc H st)
  | .lastore => chk len 1 (hSt (okT .long) k pc H st)
  | .bastore => chk len 1 (hSt okB k pc H st)
  | .arraylength => chk len 1 (hLen pc H st)
  | .ldc i => chk len 2 ((rCon ws y.cls i).map fun v => (pc + 2, .int v :: st, H))
  | .ldc_w i => chk len 3 ((rCon ws y.cls i).map fun v => (pc + 3, .int v :: st, H))
  | .ldc2_w i => chk len 3 ((rConL ws y.cls i).map fun v => (pc + 3, .long v :: st, H))
  | _ => none
def ent : List Value → List Slot
  | [] => []
  | v :: r => if v.category = 2 then .val v :: .second :: ent r else .val v :: ent r
def entry (as : List Value) (mx : Nat) : List Slot := ent as ++ List.replicate (mx - (ent as).length) .unset
def wsum (st : List Value) : Nat := (st.map fun v => v.category).sum
abbrev Dn := List (MethodName × Nat × Nat)
def dnOf (dn : Dn) (y : MethodName) : Option (Nat × Nat) := dn.findSome? fun q => if q.1 = y then some q.2 else none
/-- what a methodref says: callee, its code, max_locals, return, number of parameters, slack for what lies under -/
def cR (ws : Ws) (dn : Dn) (y : MethodName) (i : Nat) : Option (MethodName × ByteArray × Nat × Option FieldType × Nat × Nat) :=
  match rMth ws y.cls i with
  | none => none
  | some y' =>
    match rCode ws y', dnOf dn y', dnOf dn y, parseMethodDescriptor y'.desc with
    | some (b, mx, r), some (f', l'), some (f, l), some sig =>
      if hasInit ws y'.cls = true ∧ Jvm.plainName y'.cls = true ∧ y'.cls ≠ "java/lang/invoke/MethodHandle" ∧ y'.cls ≠ "java/lang/invoke/VarHandle" ∧ f' + 1 ≤ f ∧ mx + 11 + l' ≤ l then
        some (y', b, mx, r, sig.parameters.length, l - (mx + 11 + l')) else none
    | _, _, _, _ => none
def sR (ws : Ws) (dn : Dn) (y : MethodName) (i : Nat) : Option (MethodName × ByteArray × Nat × Option FieldType × Nat × Nat) :=
  match cR ws dn y i with
  | some q => if hasStat ws q.1 = true then some q else none
  | none => none
def nR (ws : Ws) (dn : Dn) (y : MethodName) (i : Nat) : Option (MethodName × ByteArray × Nat × Option FieldType × Nat × Nat) :=
  match cR ws dn y i with
  | some q => if q.1.name = "<init>" ∧ hasIM ws q.1 = true ∧ q.2.2.2.1 = none then some q else none
  | none => none
/-- the first: is it private? -/
def vR (ws : Ws) (dn : Dn) (y : MethodName) (i : Nat) : Option (Bool × MethodName × ByteArray × Nat × Option FieldType × Nat × Nat) :=
  match cR ws dn y i with
  | some q => if hasIM ws q.1 = true then
      (if hasPriv ws q.1 = true ∧ (rInst ws q.1.cls).isSome = true then some (true, q) else if hasDecl ws q.1 = true ∧ hasSel ws q.1 = true then some (false, q) else none) else none
  | none => none
/-- Object.<init>: how many words may lie under it -/
def oR (ws : Ws) (dn : Dn) (y : MethodName) (i : Nat) : Option Nat :=
  match rMth ws y.cls i, rCode ws Lib.objectInit, dnOf dn y with
  | some y', some (b, mx, r), some (f, l) =>
    if y' = Lib.objectInit ∧ hasIM ws Lib.objectInit = true ∧ b.data = #[0xb1] ∧ mx = 1 ∧ r = none ∧ 1 ≤ f ∧ 12 ≤ l then some (l - 12) else none
  | _, _, _ => none
abbrev Call := MethodName × ByteArray × Option FieldType × List Slot × List Value
/-- returns and calls -/
def cstep (ws : Ws) (dn : Dn) (y : MethodName) (ret : Option FieldType) (ins : Instr) (len pc : Nat) (ls : List Slot) (st : List Value) (H : AHeap) : Option (Option Value ⊕ (Nat × List Slot × List Value × AHeap) ⊕ Call) :=
  match ins with
  | .ireturn => chk len 1 (match st, ret with
      | .int z :: _, some t => if t = .int ∨ t = .boolean ∨ t = .byte ∨ t = .char ∨ t = .short then some (.inl (some (.int (nar t z)))) else none
      | _, _ => none)
  | .lreturn => chk len 1 (match st, ret with
      | [.long z], some .long => some (.inl (some (.long z)))
      | _, _ => none)
  | .return_ => chk len 1 (match st, ret with
      | [], none => some (.inl none)
      | _, _ => none)
  | .invokestatic i => chk len 3 (match sR ws dn y i with
      | some (y', b, mx, r, na, sl) =>
        if na ≤ st.length ∧ wsum (st.drop na) ≤ sl ∧ (ent (st.take na).reverse).length ≤ mx then
          some (.inr (.inr (y', b, r, entry (st.take na).reverse mx, st.drop na)))
        else none
      | none => none)
  | .invokespecial i => chk len 3 (match oR ws dn y i with
      | some sl => (match st with
          | .ref _ :: r => if wsum r ≤ sl then some (.inr (.inl (pc + 3, ls, r, H))) else none
          | _ => none)
      | none => match nR ws dn y i with
        | some (y', b, mx, r, na, sl) =>
          (match st.drop na with
          | .ref a :: rest =>
            if wsum rest ≤ sl ∧ (ent (.ref a :: (st.take na).reverse)).length ≤ mx ∧ na ≤ st.length then
              some (.inr (.inr (y', b, r, entry (.ref a :: (st.take na).reverse) mx, rest)))
            else none
          | _ => none)
        | none => none)
  | .invokevirtual i => chk len 3 (match vR ws dn y i with
      | some (pv, y', b, mx, r, na, sl) =>
        (match st.drop na with
        | .ref a :: rest =>
          (match H[a]? with
          | some (.object C, _) =>
            if (pv = true ∨ C = y'.cls) ∧ wsum rest ≤ sl ∧ (ent (.ref a :: (st.take na).reverse)).length ≤ mx ∧ na ≤ st.length then
              some (.inr (.inr (y', b, r, entry (.ref a :: (st.take na).reverse) mx, rest)))
            else none
          | _ => none)
        | _ => none)
      | none => none)
  | _ => none
/-- what the machine does next: it returns, it steps, it calls -/
def act (ws : Ws) (dn : Dn) (k : Nat) (y : MethodName) (bytes : ByteArray) (ret : Option FieldType) (pc : Nat) (ls : List Slot) (st : List Value) (H : AHeap) : Option (Option Value ⊕ (Nat × List Slot × List Value × AHeap) ⊕ Call) :=
  match decode bytes pc with
  | .error _ => none
  | .ok (ins, len) =>
    match xstep ins len pc ls st with
    | some q => some (.inr (.inl (q.1, q.2.1, q.2.2, H)))
    | none => match hstep ws k y ins len pc st H with
      | some q => some (.inr (.inl (q.1, ls, q.2.1, q.2.2)))
      | none => cstep ws dn y ret ins len pc ls st H
def run (ws : Ws) (dn : Dn) (k : Nat) : Nat → MethodName → ByteArray → Option FieldType → Nat → List Slot → List Value → AHeap → Option (Option Value × AHeap)
  | 0, _, _, _, _, _, _, _ => none
  | n + 1, y, bytes, ret, pc, ls, st, H =>
    match act ws dn k y bytes ret pc ls st H with
    | none => none
    | some (.inl v) => some (v, H)
    | some (.inr (.inl (pc', ls', st', H'))) => run ws dn k n y bytes ret pc' ls' st' H'
    | some (.inr (.inr (y', b, r, en, rest))) =>
      match run ws dn k n y' b r 0 en [] H with
      | some (v, H1) => run ws dn k n y bytes ret (pc + 3) ls (v.toList ++ rest) H1
      | none => none
end Jvm.Own
namespace Jvm.Own
open Sem ClassFile Op Lib Jvm.Stand Jvm.Free Jvm.LawKit Jvm.RoadKit
/-! OWN 3: the abstract machine's plain steps are the machine's -/
def ren (f : Nat → Nat) : Value → Value
  | .ref a => .ref (f a)
  | v => v
def renS (f : Nat → Nat) : Slot → Slot
  | .val v => .val (ren f v)
  | s => s
abbrev fr (f : Nat → Nat) (m : MethodId) (pc : Nat) (ls : List Slot) (st : List Value) : JFrame := mkF m pc (ls.map (renS f)).toArray (st.map (ren f))
theorem ren_cat (f : Nat → Nat) (v : Value) : (ren f v).category = v.category := by cases v <;> rfl
theorem ren_isRef (f : Nat → Nat) (v : Value) : (ren f v).isRef = v.isRef := by cases v <;> rfl
theorem isI_int {v : Value} (h : isI v = true) : ∃ x, v = .int x := by cases v <;> first | exact ⟨_, rfl⟩ | cases h
theorem isL_long {v : Value} (h : isL v = true) : ∃ x, v = .long x := by cases v <;> first | exact ⟨_, rfl⟩ | cases h
theorem chk_some {α : Type} {a b : Nat} {x : Option α} {r : α} (h : chk a b x = some r) : a = b ∧ x = some r := by
  unfold chk at h
  split at h
  · exact ⟨by assumption, h⟩
  · cases h
theorem loc_get {f : Nat → Nat} {ls : List Slot} {i : Nat} {s : Slot} (h : ls[i]? = some s) : ((ls.map (renS f)).toArray)[i]? = some (renS f s) := by
  rw [List.getElem?_toArray, List.getElem?_map, h]; rfl
theorem setAt_ren (f : Nat → Nat) (l : Array Slot) (i : Nat) (x : Slot) : setAt (l.map (renS f)) i (renS f x) = (setAt l i x).map fun a => a.map (renS f) := by
  unfold setAt
  rw [Array.size_map]
  split
  · rw [Option.map_some, Array.map_setIfInBounds]
  · rfl
theorem storeSelf_ren (f : Nat → Nat) (l : Array Slot) (i : Nat) (v : Value) : storeSelf (l.map (renS f)) i (ren f v) = (storeSelf l i v).map fun a => a.map (renS f) := by
  have h0 : setAt (l.map (renS f)) i (.val (ren f v)) = _ := setAt_ren f l i (.val v)
  simp only [storeSelf, h0, ren_cat]
  cases setAt l i (.val v) with
  | none => rfl
  | some l1 =>
    simp only [Option.map_some, Option.bind_eq_bind, Option.bind_some, bind_pure_comp]
    split
    · rw [Array.getElem?_map]
      cases l1[i + 1]? with
      | none => rfl
      | some s =>
        simp only [Option.map_some, Option.bind_some]
        cases s with
        | unset => exact setAt_ren f l1 (i + 1) .second
        | second => exact setAt_ren f l1 (i + 1) .second
        | val w =>
          simp only [renS, ren_cat]
          split
          · have h1 : setAt (l1.map (renS f)) (i + 2) .unset = _ := setAt_ren f l1 (i + 2) .unset
            rw [h1]
            cases setAt l1 (i + 2) .unset with
            | none => rfl
            | some l2 => exact setAt_ren f l2 (i + 1) .second
          · exact setAt_ren f l1 (i + 1) .second
    · rfl
theorem storeLocals_ren (f : Nat → Nat) (l : Array Slot) (i : Nat) (v : Value) : storeLocals (l.map (renS f)) i (ren f v) = (storeLocals l i v).map fun a => a.map (renS f) := by
  simp only [storeLocals, Array.getElem?_map]
  cases l[i]? with
  | none => rfl
  | some s =>
    simp only [Option.map_some, Option.bind_eq_bind, Option.bind_some]
    cases s with
    | unset => exact storeSelf_ren f l i v
    | second =>
      have h1 : setAt (l.map (renS f)) (i - 1) .unset = _ := setAt_ren f l (i - 1) .unset
      simp only [renS, h1]
      cases setAt l (i - 1) .unset with
      | none => rfl
      | some l2 => exact storeSelf_ren f l2 i v
    | val w =>
      simp only [renS, ren_cat]
      split
      · have h1 : setAt (l.map (renS f)) (i + 1) .unset = _ := setAt_ren f l (i + 1) .unset
        rw [h1]
        cases setAt l (i + 1) .unset with
        | none => rfl
        | some l2 => exact storeSelf_ren f l2 i v
      · exact storeSelf_ren f l i v
theorem stl_ren {f : Nat → Nat} {ls l' : List Slot} {i : Nat} {v : Value} (h : stl ls i v = some l') : storeLocals (ls.map (renS f)).toArray i (ren f v) = some (l'.map (renS f)).toArray := by
  unfold stl at h
  obtain ⟨a, ha, rfl⟩ := Option.map_eq_some_iff.mp h
  have := storeLocals_ren f ls.toArray i v
  rw [ha] at this
  rw [← List.map_toArray, this]
  simp [← Array.toList_inj]
theorem setAt_size {l l' : Array Slot} {i : Nat} {x : Slot} (h : setAt l i x = some l') : l'.size = l.size := by
  unfold setAt at h
  split at h
  · cases h; simp
  · cases h
theorem storeSelf_size {l l' : Array Slot} {i : Nat} {v : Value} (h : storeSelf l i v = some l') : l'.size = l.size := by
  simp only [storeSelf, Option.bind_eq_bind, Option.bind_eq_some_iff] at h
  obtain ⟨l1, h1, h⟩ := h
  have e1 := setAt_size h1
  split at h
  · obtain ⟨s, -, h⟩ := Option.bind_eq_some_iff.mp h
    split at h
    · split at h
      · obtain ⟨l2, h2, h⟩ := Option.bind_eq_some_iff.mp h
        rw [setAt_size h, setAt_size h2, e1]
      · rw [setAt_size h, e1]
    · rw [setAt_size h, e1]
  · cases h; exact e1
theorem storeLocals_size {l l' : Array Slot} {i : Nat} {v : Value} (h : storeLocals l i v = some l') : l'.size = l.size := by
  simp only [storeLocals, Option.bind_eq_bind, Option.bind_eq_some_iff] at h
  obtain ⟨s, -, h⟩ := h
  split at h
  · obtain ⟨l2, h2, h⟩ := Option.bind_eq_some_iff.mp h
    rw [storeSelf_size h, setAt_size h2]
  · split at h
    · obtain ⟨l2, h2, h⟩ := Option.bind_eq_some_iff.mp h
      rw [storeSelf_size h, setAt_size h2]
    · exact storeSelf_size h
  · exact storeSelf_size h
theorem stl_size {ls l' : List Slot} {i : Nat} {v : Value} (h : stl ls i v = some l') : l'.length = ls.length := by
  unfold stl at h
  obtain ⟨a, ha, rfl⟩ := Option.map_eq_some_iff.mp h
  have := storeLocals_size ha
  simpa using this
theorem ldV_some {p : Value → Bool} {nx i : Nat} {ls : List Slot} {st : List Value} {q : Nat × List Slot × List Value} (h : ldV p nx i ls st = some q) : ∃ v, ls[i]? = some (.val v) ∧ p v = true ∧ q = (nx, ls, v :: st) := by
  unfold ldV at h
  split at h
  · rename_i v hv
    split at h
    · cases h; exact ⟨v, hv, by assumption, rfl⟩
    · cases h
  · cases h
theorem stV_some {p : Value → Bool} {nx i : Nat} {ls : List Slot} {st : List Value} {q : Nat × List Slot × List Value} (h : stV p nx i ls st = some q) : ∃ v r l', st = v :: r ∧ p v = true ∧ stl ls i v = some l' ∧ q = (nx, l', r) := by
  unfold stV at h
  split at h
  · split at h
    · obtain ⟨l', h1, h2⟩ := Option.map_eq_some_iff.mp h
      exact ⟨_, _, l', rfl, by assumption, h1, h2.symm⟩
    · cases h
  · cases h
theorem b2_some {f : Int32 → Int32 → Int32} {nx : Nat} {ls : List Slot} {st : List Value} {q : Nat × List Slot × List Value} (h : b2 f nx ls st = some q) : ∃ x y r, st = .int y :: .int x :: r ∧ q = (nx, ls, .int (f x y) :: r) := by
  unfold b2 at h
  split at h
  · cases h; exact ⟨_, _, _, rfl, rfl⟩
  · cases h
theorem d2_some {f : Int32 → Int32 → Int32} {nx : Nat} {ls : List Slot} {st : List Value} {q : Nat × List Slot × List Value} (h : d2 f nx ls st = some q) : ∃ x y r, st = .int y :: .int x :: r ∧ y ≠ 0 ∧ q = (nx, ls, .int (f x y) :: r) := by
  unfold d2 at h
  split at h
  · split at h
    · cases h
    · cases h; exact ⟨_, _, _, rfl, by assumption, rfl⟩
  · cases h
theorem u1_some {f : Int32 → Int32} {nx : Nat} {ls : List Slot} {st : List Value} {q : Nat × List Slot × List Value} (h : u1 f nx ls st = some q) : ∃ x r, st = .int x :: r ∧ q = (nx, ls, .int (f x) :: r) := by
  unfold u1 at h
  split at h
  · cases h; exact ⟨_, _, rfl, rfl⟩
  · cases h
theorem l2_some {f : Int64 → Int64 → Int64} {nx : Nat} {ls : List Slot} {st : List Value} {q : Nat × List Slot × List Value} (h : l2 f nx ls st = some q) : ∃ x y r, st = .long y :: .long x :: r ∧ q = (nx, ls, .long (f x y) :: r) := by
  unfold l2 at h
  split at h
  · cases h; exact ⟨_, _, _, rfl, rfl⟩
  · cases h
theorem lsh_some {f : Int64 → Int32 → Int64} {nx : Nat} {ls : List Slot} {st : List Value} {q : Nat × List Slot × List Value} (h : lsh f nx ls st = some q) : ∃ x y r, st = .int y :: .long x :: r ∧ q = (nx, ls, .long (f x y) :: r) := by
  unfold lsh at h
  split at h
  · cases h; exact ⟨_, _, _, rfl, rfl⟩
  · cases h
theorem jmp_some {pc q : Nat} {o : Int} (h : jmp pc o = some q) : 0 ≤ (pc : Int) + o ∧ ((pc : Int) + o).toNat = q := by
  unfold jmp at h
  split at h
  · cases h; exact ⟨by assumption, rfl⟩
  · cases h
theorem br_some {c : Bool} {pc : Nat} {o : Int} {ls : List Slot} {r : List Value} {q : Nat × List Slot × List Value} (h : br c pc o ls r = some q) : (c = true ∧ ∃ t, 0 ≤ (pc : Int) + o ∧ ((pc : Int) + o).toNat = t ∧ q = (t, ls, r)) ∨ (c = false ∧ q = (pc + 3, ls, r)) := by
  unfold br at h
  split at h
  · obtain ⟨t, h1, h2⟩ := Option.map_eq_some_iff.mp h
    obtain ⟨h3, h4⟩ := jmp_some h1
    exact Or.inl ⟨by assumption, t, h3, h4, h2.symm⟩
  · rename_i hc; cases h; exact Or.inr ⟨by simpa using hc, rfl⟩
section X
variable {tb : Tables} [Ours tb] {e : Env} {below : List Frame} {T target : State} {m : MethodId} {c : Code}
set_option maxHeartbeats 4000000 in
theorem xstep_sound (h : At T m c below) (hx : tb.exec = Jvm.exec) (f : Nat → Nat) {ins : Instr} {len pc : Nat} {ls : List Slot} {st : List Value} {q : Nat × List Slot × List Value}
    (hd : decode c.code pc = .ok (ins, len)) (hs : xstep ins len pc ls st = some q) (hr : Steps tb e below (T.setTop (fr f m q.1 q.2.1 q.2.2)) target) : Steps tb e below (T.setTop (fr f m pc ls st)) target := by
  unfold xstep at hs
  split at hs
  · obtain ⟨rfl, hs⟩ := chk_some hs; obtain ⟨v, h1, h2, rfl⟩ := ldV_some hs
    exact XS.aloadN h hx rfl hd (loc_get h1) (by rw [ren_isRef]; exact h2) hr
  · obtain ⟨rfl, hs⟩ := chk_some hs; obtain ⟨v, h1, h2, rfl⟩ := ldV_some hs
    exact XS.aload h hx rfl hd (loc_get h1) (by rw [ren_isRef]; exact h2) hr
  · obtain ⟨rfl, hs⟩ := chk_some hs; obtain ⟨v, h1, h2, rfl⟩ := ldV_some hs; obtain ⟨x, rfl⟩ := isI_int h2
    exact XS.iloadN h hx rfl hd (loc_get (f := f) h1) hr
  · obtain ⟨rfl, hs⟩ := chk_some hs; obtain ⟨v, h1, h2, rfl⟩ := ldV_some hs; obtain ⟨x, rfl⟩ := isI_int h2
    exact XS.iload h hx rfl hd (loc_get (f := f) h1) hr
  · obtain ⟨rfl, hs⟩ := chk_some hs; obtain ⟨v, h1, h2, rfl⟩ := ldV_some hs; obtain ⟨x, rfl⟩ := isL_long h2
    exact XT.lloadN h hx rfl hd (loc_get (f := f) h1) hr
  · obtain ⟨rfl, hs⟩ := chk_some hs; obtain ⟨v, h1, h2, rfl⟩ := ldV_some hs; obtain ⟨x, rfl⟩ := isL_long h2
    exact XT.lload h hx rfl hd (loc_get (f := f) h1) hr
  · obtain ⟨rfl, hs⟩ := chk_some hs; obtain ⟨v, r, l', rfl, h2, h3, rfl⟩ := stV_some hs
    exact XS.astoreN h hx rfl hd rfl (by rw [ren_isRef]; exact h2) (stl_ren h3) hr
  · obtain ⟨rfl, hs⟩ := chk_some hs; obtain ⟨v, r, l', rfl, h2, h3, rfl⟩ := stV_some hs
    exact XS.astore h hx rfl hd rfl (by rw [ren_isRef]; exact h2) (stl_ren h3) hr
  · obtain ⟨rfl, hs⟩ := chk_some hs; obtain ⟨v, r, l', rfl, h2, h3, rfl⟩ := stV_some hs; obtain ⟨x, rfl⟩ := isI_int h2
    exact XS.istoreN h hx rfl hd rfl (stl_ren (f := f) h3) hr
  · obtain ⟨rfl, hs⟩ := chk_some hs; obtain ⟨v, r, l', rfl, h2, h3, rfl⟩ := stV_some hs; obtain ⟨x, rfl⟩ := isI_int h2
    exact XS.istore h hx rfl hd rfl (stl_ren (f := f) h3) hr
  · obtain ⟨rfl, hs⟩ := chk_some hs; obtain ⟨v, r, l', rfl, h2, h3, rfl⟩ := stV_some hs; obtain ⟨x, rfl⟩ := isL_long h2
    exact XT.lstoreN h hx rfl hd rfl (stl_ren (f := f) h3) hr
  · obtain ⟨rfl, hs⟩ := chk_some hs; obtain ⟨v, r, l', rfl, h2, h3, rfl⟩ := stV_some hs; obtain ⟨x, rfl⟩ := isL_long h2
    exact XT.lstore h hx rfl hd rfl (stl_ren (f := f) h3) hr
  · obtain ⟨rfl, hs⟩ := chk_some hs; cases hs
    exact XS.iconst h hx rfl hd hr
  · obtain ⟨rfl, hs⟩ := chk_some hs; cases hs
    exact XS.bipush h hx rfl hd hr
  · obtain ⟨rfl, hs⟩ := chk_some hs; cases hs
    exact XS.sipush h hx rfl hd hr
  · obtain ⟨rfl, hs⟩ := chk_some hs; cases hs
    exact XT.lconst h hx rfl hd hr
  · obtain ⟨rfl, hs⟩ := chk_some hs; obtain ⟨x, y, r, rfl, rfl⟩ := b2_some hs
    exact XS.iadd h hx rfl hd rfl hr
  · obtain ⟨rfl, hs⟩ := chk_some hs; obtain ⟨x, y, r, rfl, rfl⟩ := b2_some hs
    exact XS.isub h hx rfl hd rfl hr
  · obtain ⟨rfl, hs⟩ := chk_some hs; obtain ⟨x, y, r, rfl, rfl⟩ := b2_some hs
    exact XS.imul h hx rfl hd rfl hr
  · obtain ⟨rfl, hs⟩ := chk_some hs; obtain ⟨x, y, r, rfl, rfl⟩ := b2_some hs
    exact XS.iand h hx rfl hd rfl hr
  · obtain ⟨rfl, hs⟩ := chk_some hs; obtain ⟨x, y, r, rfl, rfl⟩ := b2_some hs
    exact XT.ior h hx rfl hd rfl hr
  · obtain ⟨rfl, hs⟩ := chk_some hs; obtain ⟨x, y, r, rfl, rfl⟩ := b2_some hs
    exact XT.ixor h hx rfl hd rfl hr
  · obtain ⟨rfl, hs⟩ := chk_some hs; obtain ⟨x, y, r, rfl, rfl⟩ := b2_some hs
    exact XT.ishl h hx rfl hd rfl hr
  · obtain ⟨rfl, hs⟩ := chk_some hs; obtain ⟨x, y, r, rfl, rfl⟩ := b2_some hs
    exact XT.ishr h hx rfl hd rfl hr
  · obtain ⟨rfl, hs⟩ := chk_some hs; obtain ⟨x, y, r, rfl, rfl⟩ := b2_some hs
    exact XT.iushr h hx rfl hd rfl hr
  · obtain ⟨rfl, hs⟩ := chk_some hs; obtain ⟨x, y, r, rfl, h2, rfl⟩ := d2_some hs
    exact XS.idiv h hx rfl hd rfl h2 hr
  · obtain ⟨rfl, hs⟩ := chk_some hs; obtain ⟨x, y, r, rfl, h2, rfl⟩ := d2_some hs
    refine XS.irem h hx rfl hd rfl h2 ?_
    have q : x - x / y * y = x % y := irem_eq_mod x y
    rw [q]; exact hr
  · obtain ⟨rfl, hs⟩ := chk_some hs; obtain ⟨x, r, rfl, rfl⟩ := u1_some hs
    exact XS.ineg h hx rfl hd rfl hr
  · obtain ⟨rfl, hs⟩ := chk_some hs; obtain ⟨x, r, rfl, rfl⟩ := u1_some hs
    exact XT.i2b h hx rfl hd rfl hr
  · obtain ⟨rfl, hs⟩ := chk_some hs; obtain ⟨x, r, rfl, rfl⟩ := u1_some hs
    exact XT.i2c h hx rfl hd rfl hr
  · obtain ⟨rfl, hs⟩ := chk_some hs; obtain ⟨x, y, r, rfl, rfl⟩ := l2_some hs
    exact XT.ladd h hx rfl hd rfl hr
  · obtain ⟨rfl, hs⟩ := chk_some hs; obtain ⟨x, y, r, rfl, rfl⟩ := l2_some hs
    exact XT.lsub h hx rfl hd rfl hr
  · obtain ⟨rfl, hs⟩ := chk_some hs; obtain ⟨x, y, r, rfl, rfl⟩ := l2_some hs
    exact XT.lmul h hx rfl hd rfl hr
  · obtain ⟨rfl, hs⟩ := chk_some hs; obtain ⟨x, y, r, rfl, rfl⟩ := l2_some hs
    exact XT.land h hx rfl hd rfl hr
  · obtain ⟨rfl, hs⟩ := chk_some hs; obtain ⟨x, y, r, rfl, rfl⟩ := l2_some hs
    exact XT.lor h hx rfl hd rfl hr
  · obtain ⟨rfl, hs⟩ := chk_some hs; obtain ⟨x, y, r, rfl, rfl⟩ := l2_some hs
    exact XT.lxor h hx rfl hd rfl hr
  · obtain ⟨rfl, hs⟩ := chk_some hs; obtain ⟨x, y, r, rfl, rfl⟩ := lsh_some hs
    exact XT.lshl h hx rfl hd rfl hr
  · obtain ⟨rfl, hs⟩ := chk_some hs; obtain ⟨x, y, r, rfl, rfl⟩ := lsh_some hs
    exact XT.lshr h hx rfl hd rfl hr
  · obtain ⟨rfl, hs⟩ := chk_some hs; obtain ⟨x, y, r, rfl, rfl⟩ := lsh_some hs
    exact XT.lushr h hx rfl hd rfl hr
  · obtain ⟨rfl, hs⟩ := chk_some hs
    split at hs
    · cases hs; exact XT.lneg h hx rfl hd rfl hr
    · cases hs
  · obtain ⟨rfl, hs⟩ := chk_some hs
    split at hs
    · cases hs; exact XT.i2l h hx rfl hd rfl hr
    · cases hs
  · obtain ⟨rfl, hs⟩ := chk_some hs
    split at hs
    · cases hs; exact XT.l2i h hx rfl hd rfl hr
    · cases hs
  · obtain ⟨rfl, hs⟩ := chk_some hs
    split at hs
    · cases hs; exact XT.lcmp h hx rfl hd rfl hr
    · cases hs
  · obtain ⟨rfl, hs⟩ := chk_some hs
    split at hs
    · rename_i x h1
      obtain ⟨l', h2, rfl⟩ := Option.map_eq_some_iff.mp hs
      exact XS.iinc h hx rfl hd (loc_get (f := f) h1) (stl_ren (f := f) h2) hr
    · cases hs
  · obtain ⟨rfl, hs⟩ := chk_some hs
    split at hs
    · split at hs
      · rename_i hc; cases hs; exact XS.dup h hx rfl hd rfl (by rw [ren_cat]; exact hc) hr
      · cases hs
    · cases hs
  · obtain ⟨rfl, hs⟩ := chk_some hs
    split at hs
    · cases hs; exact XT.dup2L h hx rfl hd rfl hr
    · split at hs
      · rename_i hc; cases hs; exact XT.dup2 h hx rfl hd rfl (by rw [ren_cat]; exact hc.1) (by rw [ren_cat]; exact hc.2) hr
      · cases hs
    · cases hs
  · obtain ⟨rfl, hs⟩ := chk_some hs
    split at hs
    · split at hs
      · rename_i hc; cases hs; exact XT.pop h hx rfl hd rfl (by rw [ren_cat]; exact hc) hr
      · cases hs
    · cases hs
  · obtain ⟨rfl, hs⟩ := chk_some hs
    obtain ⟨t, h1, rfl⟩ := Option.map_eq_some_iff.mp hs
    obtain ⟨h2, h3⟩ := jmp_some h1
    exact XS.goto h hx rfl rfl hd h2 h3 hr
  · obtain ⟨rfl, hs⟩ := chk_some hs
    split at hs
    · rcases br_some hs with ⟨hc, t, h1, h2, rfl⟩ | ⟨hc, rfl⟩
      · exact XS.ifYes h hx rfl rfl hd rfl hc h1 h2 hr
      · exact XS.ifNo h hx rfl hd rfl hc hr
    · cases hs
  · obtain ⟨rfl, hs⟩ := chk_some hs
    split at hs
    · rcases br_some hs with ⟨hc, t, h1, h2, rfl⟩ | ⟨hc, rfl⟩
      · exact XS.icmpYes h hx rfl rfl hd rfl hc h1 h2 hr
      · exact XS.icmpNo h hx rfl hd rfl hc hr
    · cases hs
  · unfold sw at hs
    split at hs
    · split at hs
      · rename_i hc
        obtain ⟨t, h1, rfl⟩ := Option.map_eq_some_iff.mp hs
        obtain ⟨h2, h3⟩ := jmp_some h1
        exact XS.tswOut h hx rfl rfl hd rfl hc h2 h3 hr
      · rename_i hc
        split at hs
        · rename_i o ho
          obtain ⟨t, h1, rfl⟩ := Option.map_eq_some_iff.mp hs
          obtain ⟨h2, h3⟩ := jmp_some h1
          exact XS.tswIn h hx rfl rfl hd rfl hc ho h2 h3 hr
        · cases hs
    · cases hs
  · cases hs
end X
theorem xstep_size {ins : Instr} {len pc : Nat} {ls : List Slot} {st : List Value} {q : Nat × List Slot × List Value} (hs : xstep ins len pc ls st = some q) : q.2.1.length = ls.length := by
  unfold xstep at hs
  split at hs
  all_goals first
    | (obtain ⟨rfl, hs⟩ := chk_some hs; obtain ⟨v, h1, h2, rfl⟩ := ldV_some hs; rfl)
    | (obtain ⟨rfl, hs⟩ := chk_some hs; obtain ⟨v, r, l', rfl, h2, h3, rfl⟩ := stV_some hs; exact stl_size h3)
    | (obtain ⟨rfl, hs⟩ := chk_some hs; cases hs; rfl)
    | (obtain ⟨rfl, hs⟩ := chk_some hs; obtain ⟨x, y, r, rfl, rfl⟩ := b2_some hs; rfl)
    | (obtain ⟨rfl, hs⟩ := chk_some hs; obtain ⟨x, y, r, rfl, h2, rfl⟩ := d2_some hs; rfl)
    | (obtain ⟨rfl, hs⟩ := chk_some hs; obtain ⟨x, r, rfl, rfl⟩ := u1_some hs; rfl)
    | (obtain ⟨rfl, hs⟩ := chk_some hs; obtain ⟨x, y, r, rfl, rfl⟩ := l2_some hs; rfl)
    | (obtain ⟨rfl, hs⟩ := chk_some hs; obtain ⟨x, y, r, rfl, rfl⟩ := lsh_some hs; rfl)
    | (obtain ⟨rfl, hs⟩ := chk_some hs; split at hs <;> first | (cases hs; rfl) | (cases hs; done))
    | (obtain ⟨rfl, hs⟩ := chk_some hs; split at hs <;> first | (obtain ⟨l', h2, rfl⟩ := Option.map_eq_some_iff.mp hs; exact stl_size h2) | (cases hs; done))
    | (obtain ⟨rfl, hs⟩ := chk_some hs; split at hs <;> first | (split at hs <;> first | (cases hs; rfl) | (cases hs; done)) | (cases hs; rfl) | (cases hs; done))
    | (obtain ⟨rfl, hs⟩ := chk_some hs; obtain ⟨t, h1, rfl⟩ := Option.map_eq_some_iff.mp hs; rfl)
    | (obtain ⟨rfl, hs⟩ := chk_some hs; split at hs <;> first | (rcases br_some hs with ⟨hc, t, h1, h2, rfl⟩ | ⟨hc, rfl⟩ <;> rfl) | (cases hs; done))
    | (unfold sw at hs; split at hs <;> first | (cases hs; done) | (split at hs <;> first | (obtain ⟨t, h1, rfl⟩ := Option.map_eq_some_iff.mp hs; rfl) | (split at hs <;> first | (obtain ⟨t, h1, rfl⟩ := Option.map_eq_some_iff.mp hs; rfl) | (cases hs; done))))
    | (cases hs; done)
end Jvm.Own
namespace Jvm.Own
open Sem ClassFile Op Lib Jvm.Stand Jvm.Free Jvm.LawKit Jvm.RoadKit
/-! OWN 4: the heap's steps -/
def adr (k sa n0 i : Nat) : Nat := if i < k then sa else n0 + (i - k)
def SimO (Z : State) (ws : Ws) (f : Nat → Nat) (h : Heap) (a : Addr) : FieldType × List Value → Prop
  | (.object C, vs) => Exa Z h a C ∧ ∀ n t j, fidx ws C n t = some j → ∃ v, vs[j]? = some v ∧ Fld Z h a C n t (ren f v)
  | (.array ty, vs) => ∃ c : Cell, Arr Z h a c ty ∧ c.slots = (vs.map (ren f)).toArray
  | _ => False
def Sim (Z : State) (ws : Ws) (k sa n0 : Nat) (H : AHeap) (h : Heap) : Prop :=
  h.size = n0 + (H.length - k) ∧ k ≤ H.length ∧ k ≤ 1 ∧ (1 ≤ k → sa < n0) ∧ ∀ i o, H[i]? = some o → SimO Z ws (adr k sa n0) h (adr k sa n0 i) o
def cost (ws : Ws) : FieldType × List Value → Nat
  | (.object C, _) => (rInst ws C).getD 0
  | (_, vs) => vs.length
def tot (ws : Ws) (H : AHeap) : Nat := (H.map (cost ws)).sum
theorem adr_inj {k sa n0 i j : Nat} (hk : k ≤ 1) (hs : 1 ≤ k → sa < n0) (e : adr k sa n0 i = adr k sa n0 j) : i = j := by
  unfold adr at e; split at e <;> split at e <;> omega
theorem adr_ge {k sa n0 a : Nat} (h : k ≤ a) : n0 ≤ adr k sa n0 a := by
  unfold adr; rw [if_neg (by omega)]; omega
theorem tot_app (ws : Ws) (H : AHeap) (o : FieldType × List Value) : tot ws (H ++ [o]) = tot ws H + cost ws o := by simp [tot]
theorem tot_set {ws : Ws} : ∀ {H : AHeap} {a : Nat} {o o' : FieldType × List Value}, H[a]? = some o → cost ws o' = cost ws o → tot ws (H.set a o') = tot ws H
  | [], _, _, _, h, _ => by cases h
  | x :: r, 0, o, o', h, e => by
    simp only [List.getElem?_cons_zero, Option.some.injEq] at h; subst h
    simp [tot, e]
  | x :: r, a + 1, o, o', h, e => by
    have := tot_set (ws := ws) (H := r) (a := a) (o := o) (o' := o') (by simpa using h) e
    simp only [tot, List.set_cons_succ, List.map_cons, List.sum_cons] at this ⊢
    rw [this]
theorem ren_dflt (f : Nat → Nat) (ty : FieldType) : ren f (defaultValue ty) = defaultValue ty := by cases ty <;> rfl
section Facts
variable {Z : State} {ws : Ws} {f : Nat → Nat} {h h' : Heap} {a b : Addr} {o : FieldType × List Value} {sl : Nat} {v : Value}
theorem SimO.ext (E : Ext h h') (S : SimO Z ws f h a o) : SimO Z ws f h' a o := by
  unfold SimO at S ⊢
  split at S
  · exact ⟨S.1.ext E, fun n t j q => by obtain ⟨v, h1, h2⟩ := S.2 n t j q; exact ⟨v, h1, h2.ext E⟩⟩
  · obtain ⟨c, h1, h2⟩ := S; exact ⟨c, h1.ext E, h2⟩
  · exact S.elim
theorem SimO.other (W : Wr h h' b sl v) (ne : a ≠ b) (S : SimO Z ws f h a o) : SimO Z ws f h' a o := by
  unfold SimO at S ⊢
  split at S
  · exact ⟨S.1.wr W, fun n t j q => by obtain ⟨v, h1, h2⟩ := S.2 n t j q; exact ⟨v, h1, h2.other W (Or.inl ne)⟩⟩
  · obtain ⟨c, h1, h2⟩ := S; exact ⟨c, h1.other W ne, h2⟩
  · exact S.elim
theorem Sim.push {k sa n0 : Nat} {H : AHeap} (S : Sim Z ws k sa n0 H h) (E : Ext h h') (hz : h'.size = h.size + 1) (O : SimO Z ws (adr k sa n0) h' h.size o) : Sim Z ws k sa n0 (H ++ [o]) h' := by
  obtain ⟨h1, h2, h3, h4, h5⟩ := S
  refine ⟨by rw [hz, h1, List.length_append, List.length_singleton]; omega, by rw [List.length_append]; omega, h3, h4, fun i o' q => ?_⟩
  rcases Nat.lt_trichotomy i H.length with g | g | g
  · rw [List.getElem?_append_left g] at q; exact (h5 i o' q).ext E
  · subst g
    rw [List.getElem?_append_right (Nat.le_refl _), Nat.sub_self] at q
    cases q
    have e : adr k sa n0 H.length = h.size := by unfold adr; rw [if_neg (by omega), h1]
    rw [e]; exact O
  · rw [List.getElem?_eq_none (by simp; omega)] at q; cases q
theorem Sim.next {k sa n0 : Nat} {H : AHeap} (S : Sim Z ws k sa n0 H h) : h.size = adr k sa n0 H.length := by
  obtain ⟨h1, h2, -⟩ := S
  unfold adr; rw [if_neg (by omega), h1]
theorem Wr.upd {k sa n0 i : Nat} {H : AHeap} {o' : FieldType × List Value} (S : Sim Z ws k sa n0 H h) (W : Wr h h' (adr k sa n0 i) sl v) (O : SimO Z ws (adr k sa n0) h' (adr k sa n0 i) o') : Sim Z ws k sa n0 (H.set i o') h' := by
  obtain ⟨h1, h2, h3, h4, h5⟩ := S
  refine ⟨by rw [W.size, h1, List.length_set], by rw [List.length_set]; exact h2, h3, h4, fun j q hq => ?_⟩
  by_cases e : i = j
  · subst e
    rw [List.getElem?_set_self' ] at hq
    cases hi : H[i]? with
    | none => rw [hi] at hq; cases hq
    | some x => rw [hi] at hq; cases hq; exact O
  · rw [List.getElem?_set_ne e] at hq
    exact (h5 j q hq).other W fun g => e (adr_inj h3 h4 g).symm
end Facts
theorem putv_ok {ty : FieldType} {v v' : Value} (f : Nat → Nat) (h : putv ty v = some v') : narrow ty (ren f v) = ren f v' ∧ fits ty (ren f v') = true := by
  unfold putv at h
  split at h
  · cases h; exact ⟨rfl, rfl⟩
  · cases h; exact ⟨rfl, fits_nar_bool _⟩
  · cases h; exact ⟨rfl, fits_nar_byte _⟩
  · cases h; exact ⟨rfl, fits_nar_char _⟩
  · cases h; exact ⟨rfl, fits_nar_short _⟩
  · cases h; exact ⟨rfl, rfl⟩
  · cases h; exact ⟨rfl, rfl⟩
  · cases h
theorem size_set (c : Cell) (j : Nat) (v : Value) (f : Nat → Nat) {vs : List Value} {v' : Value} (e : c.slots = (vs.map (ren f)).toArray) (q : v = ren f v') : (c.setSlot j v).slots = ((vs.set j v').map (ren f)).toArray := by
  subst q
  show c.slots.setIfInBounds j (ren f v') = _
  rw [e, List.setIfInBounds_toArray, List.map_set]
section H
variable {p : Program} {l : Launch} {e : Env} {R : Room} {s : State} {m : MethodId} {args : Array Value} {below : List Frame} {meth : Method} {c : Code} {T : State} {locs : List Loc} {cells slots : Nat}
  {Z : State} {a0 : Array Value} {ws : Ws} {k sa n0 : Nat} {y : MethodName} {pc : Nat} {ls : List Slot} {st : List Value} {H : AHeap}
/-- the point behind one step -/
def Beh (p : Program) (l : Launch) (e : Env) (R : Room) (s : State) (m : MethodId) (args : Array Value) (below : List Frame) (meth : Method) (c : Code) (T : State) (Z : State) (ws : Ws) (k sa n0 cells slots : Nat) (H : AHeap) (g : JFrame) (pc' : Nat) (ls' : List Slot) (st' : List Value) (H' : AHeap) : Prop :=
  ∃ T' locs', Stand p l e R s m args below meth c T' locs' (cells + (H'.length - H.length)) (slots + (tot ws H' - tot ws H)) ∧ Sim Z ws k sa n0 H' T'.heap ∧ Fr n0 locs' ∧
    ∀ target, Steps p.tables e below (T'.setTop (fr (adr k sa n0) m pc' ls' st')) target → Steps p.tables e below (T.setTop g) target
theorem Beh.stay {g : JFrame} {pc' : Nat} {st' : List Value} {T' : State} (X : Stand p l e R s m args below meth c T' locs cells slots) (S : Sim Z ws k sa n0 H T'.heap) (N : Fr n0 locs)
    (h : ∀ target, Steps p.tables e below (T'.setTop (fr (adr k sa n0) m pc' ls st')) target → Steps p.tables e below (T.setTop g) target) : Beh p l e R s m args below meth c T Z ws k sa n0 cells slots H g pc' ls st' H :=
  ⟨T', locs, by rw [Nat.sub_self, Nat.sub_self]; exact X, S, N, h⟩
theorem hGet_sound (hw : ∀ d ∈ ws, d.before a0 Z = true) (X : Stand p l e R s m args below meth c T locs cells slots) (hx : p.tables.exec = Jvm.exec) (hZ : Z.Warmed39 s.vm) (hown : s.vm.findClass y.cls = some m.cls)
    {i : Nat} (hd : decode c.code pc = .ok (.getfield i, 3)) {q : Nat × List Value × AHeap} (hs : hGet ws y.cls i pc H st = some q) (S : Sim Z ws k sa n0 H T.heap) (N : Fr n0 locs) :
    Beh p l e R s m args below meth c T Z ws k sa n0 cells slots H (fr (adr k sa n0) m pc ls st) q.1 ls q.2.1 q.2.2 := by
  unfold hGet at hs
  split at hs
  · rename_i a r
    split at hs
    · rename_i C j C' vs q1 q2
      split at hs
      · rename_i hC; subst hC
        obtain ⟨v, hv, rfl⟩ := Option.map_eq_some_iff.mp hs
        obtain ⟨n, t, r1, r2⟩ := gfR_some q1
        obtain ⟨v', hv', F⟩ := (S.2.2.2.2 a _ q2).2 n t j r2
        cases hv.symm.trans hv'
        obtain ⟨T', X', e', st'⟩ := getF X hx hZ hown (host := "") (Or.inl (hw _ (rFld_mem r1))) Via.refl rfl F (g := fr (adr k sa n0) m pc ls (.ref a :: r)) rfl rfl hd
        exact Beh.stay X' (by rw [e']; exact S) N st'
      · cases hs
    · cases hs
  · cases hs
theorem hPut_sound (hw : ∀ d ∈ ws, d.before a0 Z = true) (X : Stand p l e R s m args below meth c T locs cells slots) (hx : p.tables.exec = Jvm.exec) (hZ : Z.Warmed39 s.vm) (hown : s.vm.findClass y.cls = some m.cls) (hnm : meth.name = y.name)
    {i : Nat} (hd : decode c.code pc = .ok (.putfield i, 3)) {q : Nat × List Value × AHeap} (hs : hPut ws k y.cls y.name i pc H st = some q) (S : Sim Z ws k sa n0 H T.heap) (N : Fr n0 locs) :
    Beh p l e R s m args below meth c T Z ws k sa n0 cells slots H (fr (adr k sa n0) m pc ls st) q.1 ls q.2.1 q.2.2 := by
  unfold hPut at hs
  split at hs
  · rename_i v a r
    split at hs
    · rename_i C j ty C' vs q1 q2
      split at hs
      · rename_i hC; obtain ⟨rfl, hk, hj⟩ := hC
        obtain ⟨v', hv, rfl⟩ := Option.map_eq_some_iff.mp hs
        obtain ⟨n, t, r1, r2, r3, r4, ⟨ki, r5⟩, r6⟩ := pfR_some q1
        have SO := S.2.2.2.2 a _ q2
        obtain ⟨w, hw', F⟩ := SO.2 n t j r2
        obtain ⟨g1, g2⟩ := putv_ok (adr k sa n0) hv
        obtain ⟨T', h', X', e', W, st'⟩ := putFN X hx hZ hown (hw _ (rFld_mem r1)) Via.refl rfl F SO.1 (r4.imp (fun q => hw _ q) fun q => ⟨hw _ q.1, q.2.1, hnm.trans q.2.2⟩) (hw _ r5) r3 g1 g2 (g := fr (adr k sa n0) m pc ls (v :: .ref a :: r)) rfl rfl hd
        have LL : ∀ {n' t' : String}, (n', t') ∈ olay ws C → Laid Z a0 C C n' t' := fun q => (lay_mem q).1.imp (fun q => hw _ q) (fun q => hw _ q)
        have O' : SimO Z ws (adr k sa n0) h' (adr k sa n0 a) (.object C, vs.set j v') := by
          refine ⟨SO.1.wr W, fun n' t' j' q' => ?_⟩
          obtain ⟨u, hu, F'⟩ := SO.2 n' t' j' q'
          by_cases ej : j = j'
          · subst ej
            obtain ⟨rfl, rfl⟩ := fidx_inj r2 q'
            exact ⟨v', by rw [List.getElem?_set_self hj], F.same W⟩
          · refine ⟨u, by rw [List.getElem?_set_ne ej]; exact hu, F'.other W (Or.inr ?_)⟩
            obtain ⟨-, ty', p'⟩ := lay_mem (fidx_mem q')
            refine slot_ne (LL (fidx_mem q')) (LL (fidx_mem r2)) (fun en => ?_) p' r3
            rcases r6 n' t' (fidx_mem q') with g | g
            · exact g en
            · subst en g; rw [r2] at q'; exact ej (Option.some.inj q')
        refine ⟨T', _, ?_, by rw [e']; exact Wr.upd S W O', Fr.snoc X' N (adr_ge hk), st'⟩
        show Stand p l e R s m args below meth c T' _ (cells + ((H.set a (.object C, vs.set j v')).length - H.length)) (slots + (tot ws (H.set a (.object C, vs.set j v')) - tot ws H))
        rw [List.length_set, tot_set (o := (.object C, vs)) (o' := (.object C, vs.set j v')) q2 rfl, Nat.sub_self, Nat.sub_self]
        exact X'
      · cases hs
    · cases hs
  · cases hs
theorem hNew_sound (hw : ∀ d ∈ ws, d.before a0 Z = true) (X : Stand p l e R s m args below meth c T locs cells slots) (hx : p.tables.exec = Jvm.exec) (hZ : Z.Warmed39 s.vm) (hown : s.vm.findClass y.cls = some m.cls)
    {i : Nat} (hd : decode c.code pc = .ok (.new i, 3)) {q : Nat × List Value × AHeap} (hs : hNew ws y.cls i pc H st = some q) (S : Sim Z ws k sa n0 H T.heap) (N : Fr n0 locs)
    (hc : cells + (q.2.2.length - H.length) ≤ R.cells) (hl : slots + (tot ws q.2.2 - tot ws H) ≤ R.slots) (hz0 : T.heap.size = s.heap.size + cells) :
    Beh p l e R s m args below meth c T Z ws k sa n0 cells slots H (fr (adr k sa n0) m pc ls st) q.1 ls q.2.1 q.2.2 := by
  unfold hNew at hs
  split at hs
  · rename_i C q1
    split at hs
    · rename_i g; cases hs
      obtain ⟨ki, hki⟩ := Option.isSome_iff_exists.mp g.1
      have ec : (H ++ [(FieldType.object C, (olay ws C).map dflt)]).length - H.length = 1 := by simp
      have es : tot ws (H ++ [(FieldType.object C, (olay ws C).map dflt)]) - tot ws H = ki := by
        rw [tot_app]; simp [cost, hki]
      dsimp only at hc hl ⊢
      rw [ec] at hc; rw [es] at hl
      have hz := S.next
      obtain ⟨T', h', X', e', E, A, D, -, st'⟩ := newO X hx hZ hown (hw _ (rCls_mem q1)) (hw _ (rInst_mem hki)) (hw _ (hasInit_mem g.2)) rfl (g := fr (adr k sa n0) m pc ls st) rfl hd hc hl
      have hz' : h'.size = T.heap.size + 1 := by
        have u1 := X'.heapSize
        have a1 : (T.heap.size : Nat) < h'.size := A.lt
        rw [e'] at u1
        omega
      refine ⟨T', locs, by rw [ec, es]; exact X', ?_, N, ?_⟩
      · rw [e']
        refine S.push E hz' ⟨A, fun n t j q => ?_⟩
        have hm := fidx_mem q
        obtain ⟨q2, ty, q3⟩ := lay_mem hm
        refine ⟨dflt (n, t), by rw [List.getElem?_map, idx_get q]; rfl, ?_⟩
        have F := D (O := C) (nm := n) (d := t) (q2.imp (fun q => hw _ q) (fun q => hw _ q)) q3
        have e3 : ren (adr k sa n0) (dflt (n, t)) = defaultValue ty := by simp only [dflt, q3, ren_dflt]
        rw [e3]; exact F
      · intro target ht
        rw [hz] at st'
        exact st' target ht
    · cases hs
  · cases hs
theorem hNewA_sound (hw : ∀ d ∈ ws, d.before a0 Z = true) (X : Stand p l e R s m args below meth c T locs cells slots) (hx : p.tables.exec = Jvm.exec) (hZ : Z.Warmed39 s.vm)
    {aty : ArrayType} (hd : decode c.code pc = .ok (.newarray aty, 2)) {q : Nat × List Value × AHeap} (hs : hNewA ws aty pc H st = some q) (S : Sim Z ws k sa n0 H T.heap) (N : Fr n0 locs)
    (hc : cells + (q.2.2.length - H.length) ≤ R.cells) (hl : slots + (tot ws q.2.2 - tot ws H) ≤ R.slots) (hz0 : T.heap.size = s.heap.size + cells) :
    Beh p l e R s m args below meth c T Z ws k sa n0 cells slots H (fr (adr k sa n0) m pc ls st) q.1 ls q.2.1 q.2.2 := by
  unfold hNewA at hs
  split at hs
  · rename_i n r
    split at hs
    · rename_i g; cases hs
      obtain ⟨g1, g2, g3⟩ := g
      have ec : (H ++ [(FieldType.array (newarray.typeOf aty), List.replicate n.toNatClampNeg (defaultValue (newarray.typeOf aty)))]).length - H.length = 1 := by simp
      have es : tot ws (H ++ [(FieldType.array (newarray.typeOf aty), List.replicate n.toNatClampNeg (defaultValue (newarray.typeOf aty)))]) - tot ws H = n.toNatClampNeg := by
        rw [tot_app]; simp [cost]
      dsimp only at hc hl ⊢
      rw [ec] at hc; rw [es] at hl
      have hz := S.next
      obtain ⟨T', h', cA, X', e', E, A, st'⟩ := newP X hx hZ (hw _ (hasArr_mem g1)) rfl (g := fr (adr k sa n0) m pc ls (.int n :: r)) rfl hd rfl g2 (cap := n.toNatClampNeg) (Nat.le_refl _) g3 hc hl
      have hz' : h'.size = T.heap.size + 1 := by
        have u1 := X'.heapSize
        have a1 : (T.heap.size : Nat) < h'.size := A.lt
        rw [e'] at u1
        omega
      refine ⟨T', locs, by rw [ec, es]; exact X', ?_, N, ?_⟩
      · rw [e']
        refine S.push E hz' ⟨_, A, ?_⟩
        simp [newA, ren_dflt]
      · intro target ht
        rw [hz] at st'
        exact st' target ht
    · cases hs
  · cases hs
theorem hLd_some {ok : FieldType → Bool} {q : Nat × List Value × AHeap} (hs : hLd ok pc H st = some q) : ∃ j a r ty vs v, st = .int j :: .ref a :: r ∧ H[a]? = some (.array ty, vs) ∧ ok ty = true ∧ ¬ j < 0 ∧ vs[j.toNatClampNeg]? = some v ∧ q = (pc + 1, v :: r, H) := by
  unfold hLd at hs
  split at hs
  · split at hs
    · split at hs
      · rename_i g
        obtain ⟨v, h1, h2⟩ := Option.map_eq_some_iff.mp hs
        exact ⟨_, _, _, _, _, v, rfl, by assumption, g.1, g.2, h1, h2.symm⟩
      · cases hs
    · cases hs
  · cases hs
theorem hSt_some {ok : FieldType → Bool} {q : Nat × List Value × AHeap} (hs : hSt ok k pc H st = some q) : ∃ v j a r ty vs v', st = v :: .int j :: .ref a :: r ∧ H[a]? = some (.array ty, vs) ∧ ok ty = true ∧ k ≤ a ∧ ¬ j < 0 ∧ j.toNatClampNeg < vs.length ∧ putv ty v = some v' ∧ q = (pc + 1, r, H.set a (.array ty, vs.set j.toNatClampNeg v')) := by
  unfold hSt at hs
  split at hs
  · split at hs
    · split at hs
      · rename_i g
        obtain ⟨v, h1, h2⟩ := Option.map_eq_some_iff.mp hs
        exact ⟨_, _, _, _, _, _, v, rfl, by assumption, g.1, g.2.1, g.2.2.1, g.2.2.2, h1, h2.symm⟩
      · cases hs
    · cases hs
  · cases hs
theorem hLen_some {q : Nat × List Value × AHeap} (hs : hLen pc H st = some q) : ∃ a r ty vs, st = .ref a :: r ∧ H[a]? = some (.array ty, vs) ∧ q = (pc + 1, .int vs.length.toInt32 :: r, H) := by
  unfold hLen at hs
  split at hs
  · split at hs
    · cases hs; exact ⟨_, _, _, _, rfl, by assumption, rfl⟩
    · cases hs
  · cases hs
/-- behind a store into an array -/
theorem st_beh {T' : State} {h' : Heap} {a j : Nat} {ty : FieldType} {vs : List Value} {v' : Value} {r : List Value} {g : JFrame} (X' : Stand p l e R s m args below meth c T' (locs ++ [⟨adr k sa n0 a, j⟩]) cells slots) (e' : T'.heap = h') (W : Wr T.heap h' (adr k sa n0 a) j (ren (adr k sa n0) v'))
    (S : Sim Z ws k sa n0 H T.heap) (N : Fr n0 locs) (q2 : H[a]? = some (.array ty, vs)) (hk : k ≤ a)
    (st' : ∀ target, Steps p.tables e below (T'.setTop (fr (adr k sa n0) m (pc + 1) ls r)) target → Steps p.tables e below (T.setTop g) target) :
    Beh p l e R s m args below meth c T Z ws k sa n0 cells slots H g (pc + 1) ls r (H.set a (.array ty, vs.set j v')) := by
  obtain ⟨cl, A, es⟩ := S.2.2.2.2 a _ q2
  refine ⟨T', _, ?_, by rw [e']; exact Wr.upd S W ⟨_, A.same W, size_set cl j _ _ es rfl⟩, Fr.snoc X' N (adr_ge hk), st'⟩
  rw [List.length_set, tot_set (o := (.array ty, vs)) (o' := (.array ty, vs.set j v')) q2 (by simp [cost]), Nat.sub_self, Nat.sub_self]
  exact X'
set_option maxHeartbeats 1000000 in
theorem hstep_sound (hw : ∀ d ∈ ws, d.before a0 Z = true) (X : Stand p l e R s m args below meth c T locs cells slots) (hx : p.tables.exec = Jvm.exec) (hZ : Z.Warmed39 s.vm) (hown : s.vm.findClass y.cls = some m.cls) (hnm : meth.name = y.name)
    {ins : Instr} {len : Nat} (hd : decode c.code pc = .ok (ins, len)) {q : Nat × List Value × AHeap} (hs : hstep ws k y ins len pc st H = some q) (S : Sim Z ws k sa n0 H T.heap) (N : Fr n0 locs)
    (hc : cells + (q.2.2.length - H.length) ≤ R.cells) (hl : slots + (tot ws q.2.2 - tot ws H) ≤ R.slots) (hz0 : T.heap.size = s.heap.size + cells) :
    Beh p l e R s m args below meth c T Z ws k sa n0 cells slots H (fr (adr k sa n0) m pc ls st) q.1 ls q.2.1 q.2.2 := by
  unfold hstep at hs
  split at hs
  · obtain ⟨rfl, hs⟩ := chk_some hs
    exact hGet_sound hw X hx hZ hown hd hs S N
  · obtain ⟨rfl, hs⟩ := chk_some hs
    exact hPut_sound hw X hx hZ hown hnm hd hs S N
  · obtain ⟨rfl, hs⟩ := chk_some hs
    exact hNew_sound hw X hx hZ hown hd hs S N hc hl hz0
  · obtain ⟨rfl, hs⟩ := chk_some hs
    exact hNewA_sound hw X hx hZ hd hs S N hc hl hz0
  · obtain ⟨rfl, hs⟩ := chk_some hs
    obtain ⟨j, a, r, ty, vs, v, rfl, q2, ho, hj, hv, rfl⟩ := hLd_some hs
    obtain rfl : ty = _ := of_decide_eq_true ho
    obtain ⟨cl, A, es⟩ := S.2.2.2.2 a _ q2
    have hlt := (List.getElem?_eq_some_iff.mp hv).1
    exact Beh.stay X S N fun target ht => X.iaload hx (j := j) (v := ren (adr k sa n0) v) A.1 (State.isArrayOf_alike hZ.alike A.2.1) A.2.2 (fun g => g.elim hj fun g => by rw [es] at g; simp at g; omega) (by rw [es, List.getElem?_toArray, List.getElem?_map, hv]; rfl) (g := fr (adr k sa n0) m pc ls (.int j :: .ref a :: r)) rfl rfl hd target ht
  · obtain ⟨rfl, hs⟩ := chk_some hs
    obtain ⟨j, a, r, ty, vs, v, rfl, q2, ho, hj, hv, rfl⟩ := hLd_some hs
    obtain rfl : ty = _ := of_decide_eq_true ho
    obtain ⟨cl, A, es⟩ := S.2.2.2.2 a _ q2
    have hlt := (List.getElem?_eq_some_iff.mp hv).1
    exact Beh.stay X S N fun target ht => X.caload hx (j := j) (v := ren (adr k sa n0) v) A.1 (State.isArrayOf_alike hZ.alike A.2.1) A.2.2 (fun g => g.elim hj fun g => by rw [es] at g; simp at g; omega) (by rw [es, List.getElem?_toArray, List.getElem?_map, hv]; rfl) (g := fr (adr k sa n0) m pc ls (.int j :: .ref a :: r)) rfl rfl hd target ht
  · obtain ⟨rfl, hs⟩ := chk_some hs
    obtain ⟨j, a, r, ty, vs, v, rfl, q2, ho, hj, hv, rfl⟩ := hLd_some hs
    obtain rfl : ty = _ := of_decide_eq_true ho
    obtain ⟨cl, A, es⟩ := S.2.2.2.2 a _ q2
    have hlt := (List.getElem?_eq_some_iff.mp hv).1
    exact Beh.stay X S N fun target ht => X.laload hx (j := j) (v := ren (adr k sa n0) v) A.1 (State.isArrayOf_alike hZ.alike A.2.1) A.2.2 (fun g => g.elim hj fun g => by rw [es] at g; simp at g; omega) (by rw [es, List.getElem?_toArray, List.getElem?_map, hv]; rfl) (g := fr (adr k sa n0) m pc ls (.int j :: .ref a :: r)) rfl rfl hd target ht
  · obtain ⟨rfl, hs⟩ := chk_some hs
    obtain ⟨j, a, r, ty, vs, v, rfl, q2, ho, hj, hv, rfl⟩ := hLd_some hs
    obtain ⟨cl, A, es⟩ := S.2.2.2.2 a _ q2
    have hlt := (List.getElem?_eq_some_iff.mp hv).1
    simp only [okB, Bool.or_eq_true, decide_eq_true_eq] at ho
    rcases ho with rfl | rfl
    · exact Beh.stay X S N fun target ht => X.baloadBytes hx (j := j) (v := ren (adr k sa n0) v) A.1 (State.isArrayOf_alike hZ.alike A.2.1) A.2.2 (fun g => g.elim hj fun g => by rw [es] at g; simp at g; omega) (by rw [es, List.getElem?_toArray, List.getElem?_map, hv]; rfl) (g := fr (adr k sa n0) m pc ls (.int j :: .ref a :: r)) rfl rfl hd target ht
    · exact Beh.stay X S N fun target ht => X.baloadBooleans hx (j := j) (v := ren (adr k sa n0) v) A.1 (State.isArrayOf_alike hZ.alike A.2.1) A.2.2 (fun g => g.elim hj fun g => by rw [es] at g; simp at g; omega) (by rw [es, List.getElem?_toArray, List.getElem?_map, hv]; rfl) (g := fr (adr k sa n0) m pc ls (.int j :: .ref a :: r)) rfl rfl hd target ht
  · obtain ⟨rfl, hs⟩ := chk_some hs
    obtain ⟨v, j, a, r, ty, vs, v', rfl, q2, ho, hk, hj, hlt, hv, rfl⟩ := hSt_some hs
    obtain rfl : ty = _ := of_decide_eq_true ho
    obtain ⟨cl, A, es⟩ := S.2.2.2.2 a _ q2
    cases v <;> simp only [putv, Option.some.injEq, reduceCtorEq] at hv
    subst hv
    obtain ⟨T', h', X', e', W, st'⟩ := stI X hx hZ rfl A (j := j) (fun g => g.elim hj fun g => by rw [es] at g; simp at g; omega) (g := fr (adr k sa n0) m pc ls (.int _ :: .int j :: .ref a :: r)) rfl rfl hd
    exact st_beh X' e' W S N q2 hk st'
  · obtain ⟨rfl, hs⟩ := chk_some hs
    obtain ⟨v, j, a, r, ty, vs, v', rfl, q2, ho, hk, hj, hlt, hv, rfl⟩ := hSt_some hs
    obtain rfl : ty = _ := of_decide_eq_true ho
    obtain ⟨cl, A, es⟩ := S.2.2.2.2 a _ q2
    cases v <;> simp only [putv, Option.some.injEq, reduceCtorEq] at hv
    subst hv
    obtain ⟨T', h', X', e', W, st'⟩ := stC X hx hZ rfl A (j := j) (fun g => g.elim hj fun g => by rw [es] at g; simp at g; omega) (g := fr (adr k sa n0) m pc ls (.int _ :: .int j :: .ref a :: r)) rfl rfl hd
    exact st_beh X' e' W S N q2 hk st'
  · obtain ⟨rfl, hs⟩ := chk_some hs
    obtain ⟨v, j, a, r, ty, vs, v', rfl, q2, ho, hk, hj, hlt, hv, rfl⟩ := hSt_some hs
    obtain rfl : ty = _ := of_decide_eq_true ho
    obtain ⟨cl, A, es⟩ := S.2.2.2.2 a _ q2
    cases v <;> simp only [putv, Option.some.injEq, reduceCtorEq] at hv
    subst hv
    obtain ⟨T', h', X', e', W, st'⟩ := stJ X hx hZ rfl A (j := j) (fun g => g.elim hj fun g => by rw [es] at g; simp at g; omega) (g := fr (adr k sa n0) m pc ls (.long _ :: .int j :: .ref a :: r)) rfl rfl hd
    exact st_beh X' e' W S N q2 hk st'
  · obtain ⟨rfl, hs⟩ := chk_some hs
    obtain ⟨v, j, a, r, ty, vs, v', rfl, q2, ho, hk, hj, hlt, hv, rfl⟩ := hSt_some hs
    obtain ⟨cl, A, es⟩ := S.2.2.2.2 a _ q2
    simp only [okB, Bool.or_eq_true, decide_eq_true_eq] at ho
    rcases ho with rfl | rfl
    · cases v <;> simp only [putv, Option.some.injEq, reduceCtorEq] at hv
      subst hv
      obtain ⟨T', h', X', e', W, st'⟩ := stB X hx hZ rfl A (j := j) (fun g => g.elim hj fun g => by rw [es] at g; simp at g; omega) (g := fr (adr k sa n0) m pc ls (.int _ :: .int j :: .ref a :: r)) rfl rfl hd
      exact st_beh X' e' W S N q2 hk st'
    · cases v <;> simp only [putv, Option.some.injEq, reduceCtorEq] at hv
      subst hv
      obtain ⟨T', h', X', e', W, st'⟩ := stZ X hx hZ rfl A (j := j) (fun g => g.elim hj fun g => by rw [es] at g; simp at g; omega) (g := fr (adr k sa n0) m pc ls (.int _ :: .int j :: .ref a :: r)) rfl rfl hd
      exact st_beh X' e' W S N q2 hk st'
  · obtain ⟨rfl, hs⟩ := chk_some hs
    obtain ⟨a, r, ty, vs, rfl, q2, rfl⟩ := hLen_some hs
    obtain ⟨cl, A, es⟩ := S.2.2.2.2 a _ q2
    have ez : cl.slots.size = vs.length := by rw [es]; simp
    refine Beh.stay X S N fun target ht => X.arraylength hx (cell := cl) A.1 (State.isArrayOf_alike hZ.alike A.2.1) (g := fr (adr k sa n0) m pc ls (.ref a :: r)) rfl rfl hd target ?_
    rw [ez]; exact ht
  · obtain ⟨rfl, hs⟩ := chk_some hs
    obtain ⟨v, hv, rfl⟩ := Option.map_eq_some_iff.mp hs
    exact Beh.stay X S N (X.ldcInt hx hown (mvT hZ (hw _ (rCon_mem hv))) (g := fr (adr k sa n0) m pc ls st) rfl hd)
  · obtain ⟨rfl, hs⟩ := chk_some hs
    obtain ⟨v, hv, rfl⟩ := Option.map_eq_some_iff.mp hs
    exact Beh.stay X S N (X.ldcwInt hx hown (mvT hZ (hw _ (rCon_mem hv))) (g := fr (adr k sa n0) m pc ls st) rfl hd)
  · obtain ⟨rfl, hs⟩ := chk_some hs
    obtain ⟨v, hv, rfl⟩ := Option.map_eq_some_iff.mp hs
    exact Beh.stay X S N (X.ldc2Long hx hown (mvT hZ (hw _ (rConL_mem hv))) (g := fr (adr k sa n0) m pc ls st) rfl hd)
  · cases hs
end H
theorem hstep_size {ws : Ws} {k : Nat} {y : MethodName} {ins : Instr} {len pc : Nat} {st : List Value} {H : AHeap} {q : Nat × List Value × AHeap} (hs : hstep ws k y ins len pc st H = some q) : H.length ≤ q.2.2.length ∧ tot ws H ≤ tot ws q.2.2 := by
  unfold hstep at hs
  split at hs
  · obtain ⟨rfl, hs⟩ := chk_some hs
    unfold hGet at hs
    split at hs
    · split at hs
      · split at hs
        · obtain ⟨v, -, rfl⟩ := Option.map_eq_some_iff.mp hs; exact ⟨Nat.le_refl _, Nat.le_refl _⟩
        · cases hs
      · cases hs
    · cases hs
  · obtain ⟨rfl, hs⟩ := chk_some hs
    unfold hPut at hs
    split at hs
    · split at hs
      · rename_i C j ty C' vs q1 q2
        split at hs
        · obtain ⟨v, -, rfl⟩ := Option.map_eq_some_iff.mp hs
          exact ⟨Nat.le_of_eq (by rw [List.length_set]), Nat.le_of_eq (tot_set (o := (.object C', vs)) (o' := (.object C', vs.set j v)) q2 rfl).symm⟩
        · cases hs
      · cases hs
    · cases hs
  · obtain ⟨rfl, hs⟩ := chk_some hs
    unfold hNew at hs
    split at hs
    · split at hs
      · cases hs; exact ⟨by simp, by rw [tot_app]; omega⟩
      · cases hs
    · cases hs
  · obtain ⟨rfl, hs⟩ := chk_some hs
    unfold hNewA at hs
    split at hs
    · split at hs
      · cases hs; exact ⟨by simp, by rw [tot_app]; omega⟩
      · cases hs
    · cases hs
  all_goals first
    | (obtain ⟨rfl, hs⟩ := chk_some hs; obtain ⟨j, a, r, ty, vs, v, rfl, q2, ho, hj, hv, rfl⟩ := hLd_some hs; exact ⟨Nat.le_refl _, Nat.le_refl _⟩)
    | (obtain ⟨rfl, hs⟩ := chk_some hs; obtain ⟨v, j, a, r, ty, vs, v', rfl, q2, ho, hk, hj, hlt, hv, rfl⟩ := hSt_some hs; exact ⟨Nat.le_of_eq (by rw [List.length_set]), Nat.le_of_eq (tot_set (o := (.array ty, vs)) (o' := (.array ty, vs.set _ v')) q2 (by simp [cost])).symm⟩)
    | (obtain ⟨rfl, hs⟩ := chk_some hs; obtain ⟨a, r, ty, vs, rfl, q2, rfl⟩ := hLen_some hs; exact ⟨Nat.le_refl _, Nat.le_refl _⟩)
    | (obtain ⟨rfl, hs⟩ := chk_some hs; obtain ⟨v, hv, rfl⟩ := Option.map_eq_some_iff.mp hs; exact ⟨Nat.le_refl _, Nat.le_refl _⟩)
    | (cases hs; done)
end Jvm.Own
namespace Jvm.Own
open Sem ClassFile Op Lib Jvm.Stand Jvm.Free Jvm.LawKit Jvm.RoadKit
/-! OWN 5: the run is the machine's -/
theorem ent_ren (f : Nat → Nat) : ∀ as : List Value, ent (as.map (ren f)) = (ent as).map (renS f)
  | [] => rfl
  | v :: r => by
    simp only [List.map_cons, ent, ren_cat, ent_ren f r]
    split <;> rfl
theorem fill_eq : ∀ (as : List Value) (acc : Array Slot), as.foldl (fun acc v => if v.category = 2 then (acc.push (.val v)).push .second else acc.push (.val v)) acc = acc ++ (ent as).toArray
  | [], acc => by simp [ent]
  | v :: r, acc => by
    simp only [List.foldl_cons, ent]
    split
    · rw [fill_eq r]; simp [← Array.toList_inj]
    · rw [fill_eq r]; simp [← Array.toList_inj]
theorem entry_eq (f : Nat → Nat) (m : MethodId) (as : List Value) (mx : Nat) : entryFrame m (as.map (ren f)).toArray mx = fr f m 0 (entry as mx) [] := by
  have h : argsToLocals (as.map (ren f)).toArray mx = ((entry as mx).map (renS f)).toArray := by
    unfold argsToLocals entry
    simp only [List.foldl_toArray']
    rw [fill_eq, ent_ren]
    simp [← Array.toList_inj, renS]
  unfold entryFrame
  rw [h]; rfl
theorem entry_len {as : List Value} {mx : Nat} (h : (ent as).length ≤ mx) : (entry as mx).length = mx := by simp [entry]; omega
theorem wsum_ren (f : Nat → Nat) (st : List Value) : ((st.map (ren f)).map fun v => v.category).sum = wsum st := by
  unfold wsum
  rw [List.map_map]
  congr 1
  apply List.map_congr_left
  intro v _
  exact ren_cat f v
section Inv
variable {ws : Ws} {dn : Dn} {k : Nat} {y : MethodName} {bytes : ByteArray} {ret : Option FieldType} {pc : Nat} {ls : List Slot} {st : List Value} {H : AHeap}
theorem cR_some {i : Nat} {y' : MethodName} {b : ByteArray} {mx na sl : Nat} {r : Option FieldType} (h : cR ws dn y i = some (y', b, mx, r, na, sl)) :
    Jvm.Cond.methodLink y.cls i y' ∈ ws ∧ Jvm.Cond.code y' b mx r ∈ ws ∧ Jvm.Cond.initialized y'.cls ∈ ws ∧ Jvm.plainName y'.cls = true ∧ (y'.cls ≠ "java/lang/invoke/MethodHandle" ∧ y'.cls ≠ "java/lang/invoke/VarHandle") ∧ rCode ws y' = some (b, mx, r) ∧
    ∃ f' l' f l sig, dnOf dn y' = some (f', l') ∧ dnOf dn y = some (f, l) ∧ parseMethodDescriptor y'.desc = some sig ∧ na = sig.parameters.length ∧ f' + 1 ≤ f ∧ sl + (mx + 11) + l' ≤ l := by
  unfold cR at h
  split at h
  · cases h
  · rename_i z q1
    split at h
    · rename_i b' mx' r' f' l' f l sig q2 q3 q4 q5
      split at h
      · rename_i g
        cases h
        obtain ⟨g1, g2, g3, g4, g5, g6⟩ := g
        exact ⟨rMth_mem q1, rCode_mem q2, hasInit_mem g1, g2, ⟨g3, g4⟩, q2, f', l', f, l, sig, q3, q4, q5, rfl, g5, by omega⟩
      · cases h
    · cases h
theorem act_ret {v : Option Value} (h : act ws dn k y bytes ret pc ls st H = some (.inl v)) : (∃ z r t, decode bytes pc = .ok (.ireturn, 1) ∧ st = .int z :: r ∧ ret = some t ∧ (t = .int ∨ t = .boolean ∨ t = .byte ∨ t = .char ∨ t = .short) ∧ v = some (.int (nar t z))) ∨
    (∃ z, decode bytes pc = .ok (.lreturn, 1) ∧ st = [.long z] ∧ ret = some .long ∧ v = some (.long z)) ∨ (decode bytes pc = .ok (.return_, 1) ∧ st = [] ∧ ret = none ∧ v = none) := by
  unfold act at h
  split at h
  · cases h
  rename_i ins len hd
  split at h
  · cases h
  split at h
  · cases h
  unfold cstep at h
  split at h
  · obtain ⟨rfl, h⟩ := chk_some h
    split at h
    · split at h
      · rename_i g; cases h; exact Or.inl ⟨_, _, _, hd, rfl, rfl, g, rfl⟩
      · cases h
    · cases h
  · obtain ⟨rfl, h⟩ := chk_some h
    split at h
    · cases h; exact Or.inr (Or.inl ⟨_, hd, rfl, rfl, rfl⟩)
    · cases h
  · obtain ⟨rfl, h⟩ := chk_some h
    split at h
    · cases h; exact Or.inr (Or.inr ⟨hd, rfl, rfl, rfl⟩)
    · cases h
  · obtain ⟨rfl, h⟩ := chk_some h
    split at h
    · split at h <;> cases h
    · cases h
  · obtain ⟨rfl, h⟩ := chk_some h
    split at h
    · split at h
      · split at h <;> cases h
      · cases h
    · split at h
      · split at h
        · split at h <;> cases h
        · cases h
      · cases h
  · obtain ⟨rfl, h⟩ := chk_some h
    split at h
    · split at h
      · split at h
        · split at h <;> cases h
        · cases h
      · cases h
    · cases h
  · cases h
theorem act_step {pc' : Nat} {ls' : List Slot} {st' : List Value} {H' : AHeap} (h : act ws dn k y bytes ret pc ls st H = some (.inr (.inl (pc', ls', st', H')))) : ∃ ins len, decode bytes pc = .ok (ins, len) ∧
    ((xstep ins len pc ls st = some (pc', ls', st') ∧ H' = H) ∨ (ls' = ls ∧ hstep ws k y ins len pc st H = some (pc', st', H')) ∨
     (∃ i sl a r, ins = .invokespecial i ∧ len = 3 ∧ oR ws dn y i = some sl ∧ st = .ref a :: r ∧ wsum r ≤ sl ∧ pc' = pc + 3 ∧ ls' = ls ∧ st' = r ∧ H' = H)) := by
  unfold act at h
  split at h
  · cases h
  rename_i ins len hd
  refine ⟨ins, len, hd, ?_⟩
  split at h
  · rename_i g; cases h; exact Or.inl ⟨g, rfl⟩
  split at h
  · rename_i g; cases h; exact Or.inr (Or.inl ⟨rfl, g⟩)
  unfold cstep at h
  split at h
  · obtain ⟨rfl, h⟩ := chk_some h
    split at h
    · split at h <;> cases h
    · cases h
  · obtain ⟨rfl, h⟩ := chk_some h
    split at h <;> cases h
  · obtain ⟨rfl, h⟩ := chk_some h
    split at h <;> cases h
  · obtain ⟨rfl, h⟩ := chk_some h
    split at h
    · split at h <;> cases h
    · cases h
  · obtain ⟨rfl, h⟩ := chk_some h
    split at h
    · rename_i sl ho
      split at h
      · split at h
        · rename_i g; cases h; exact Or.inr (Or.inr ⟨_, sl, _, _, rfl, rfl, ho, rfl, g, rfl, rfl, rfl, rfl⟩)
        · cases h
      · cases h
    · split at h
      · split at h
        · split at h <;> cases h
        · cases h
      · cases h
  · obtain ⟨rfl, h⟩ := chk_some h
    split at h
    · split at h
      · split at h
        · split at h <;> cases h
        · cases h
      · cases h
    · cases h
  · cases h
/-- the three kinds of call -/
theorem act_call {y' : MethodName} {b : ByteArray} {r : Option FieldType} {en : List Slot} {rest : List Value} (h : act ws dn k y bytes ret pc ls st H = some (.inr (.inr (y', b, r, en, rest)))) : ∃ i mx na sl as, cR ws dn y i = some (y', b, mx, r, na, sl) ∧ en = entry as mx ∧ (ent as).length ≤ mx ∧ wsum rest ≤ sl ∧
    ((decode bytes pc = .ok (.invokestatic i, 3) ∧ Jvm.Cond.static y' ∈ ws ∧ as.length = na ∧ st = as.reverse ++ rest) ∨
     (∃ a as', as = .ref a :: as' ∧ as'.length = na ∧ st = as'.reverse ++ .ref a :: rest ∧ Jvm.Cond.instanceMethod y' ∈ ws ∧
      ((decode bytes pc = .ok (.invokespecial i, 3) ∧ y'.name = "<init>" ∧ r = none) ∨
       (decode bytes pc = .ok (.invokevirtual i, 3) ∧ ∃ C vs, H[a]? = some (.object C, vs) ∧ ((Jvm.Cond.privateMethod y' ∈ ws ∧ ∃ ki, Jvm.Cond.instantiable y'.cls ki ∈ ws) ∨ (Jvm.Cond.declares y' ∈ ws ∧ Jvm.Cond.selects y'.cls y' y' ∈ ws ∧ C = y'.cls)))))) := by
  unfold act at h
  split at h
  · cases h
  rename_i ins len hd
  split at h
  · cases h
  split at h
  · cases h
  unfold cstep at h
  split at h
  · obtain ⟨rfl, h⟩ := chk_some h
    split at h
    · split at h <;> cases h
    · cases h
  · obtain ⟨rfl, h⟩ := chk_some h
    split at h <;> cases h
  · obtain ⟨rfl, h⟩ := chk_some h
    split at h <;> cases h
  · rename_i i _ _
    obtain ⟨rfl, h⟩ := chk_some h
    split at h
    · rename_i y1 b1 mx r1 na sl hq
      split at h
      · rename_i g
        cases h
        unfold sR at hq
        split at hq
        · rename_i q hc
          split at hq
          · rename_i hs
            cases hq
            refine ⟨i, mx, na, sl, _, hc, rfl, g.2.2, g.2.1, Or.inl ⟨hd, hasStat_mem hs, by simp; omega, by simp⟩⟩
          · cases hq
        · cases hq
      · cases h
    · cases h
  · rename_i i _ _
    obtain ⟨rfl, h⟩ := chk_some h
    split at h
    · split at h
      · split at h <;> cases h
      · cases h
    · split at h
      · rename_i y1 b1 mx r1 na sl hq
        split at h
        · rename_i a rest' hdrop
          split at h
          · rename_i g
            cases h
            unfold nR at hq
            split at hq
            · rename_i q hc
              split at hq
              · rename_i hs
                cases hq
                refine ⟨i, mx, na, sl, _, hc, rfl, g.2.1, g.1, Or.inr ⟨a, _, rfl, by simp; omega, ?_, hasIM_mem hs.2.1, Or.inl ⟨hd, hs.1, hs.2.2⟩⟩⟩
                rw [List.reverse_reverse, ← hdrop, List.take_append_drop]
              · cases hq
            · cases hq
          · cases h
        · cases h
      · cases h
  · rename_i i _ _
    obtain ⟨rfl, h⟩ := chk_some h
    split at h
    · rename_i pv y1 b1 mx r1 na sl hq
      split at h
      · rename_i a rest' hdrop
        split at h
        · rename_i C vs hH
          split at h
          · rename_i g
            cases h
            unfold vR at hq
            split at hq
            · rename_i q hc
              split at hq
              · rename_i hs
                split at hq
                · rename_i hp; cases hq
                  obtain ⟨ki, hki⟩ := Option.isSome_iff_exists.mp hp.2
                  exact ⟨i, mx, na, sl, _, hc, rfl, g.2.2.1, g.2.1, Or.inr ⟨a, _, rfl, by simp; omega, by rw [List.reverse_reverse, ← hdrop, List.take_append_drop], hasIM_mem hs, Or.inr ⟨hd, C, vs, hH, Or.inl ⟨hasPriv_mem hp.1, ki, rInst_mem hki⟩⟩⟩⟩
                · split at hq
                  · rename_i hp; cases hq
                    exact ⟨i, mx, na, sl, _, hc, rfl, g.2.2.1, g.2.1, Or.inr ⟨a, _, rfl, by simp; omega, by rw [List.reverse_reverse, ← hdrop, List.take_append_drop], hasIM_mem hs, Or.inr ⟨hd, C, vs, hH, Or.inr ⟨hasDecl_mem hp.1, hasSel_mem hp.2, g.1.resolve_left (by simp)⟩⟩⟩⟩
                  · cases hq
              · cases hq
            · cases hq
          · cases h
        · cases h
      · cases h
    · cases h
  · cases h
theorem act_size {pc' : Nat} {ls' : List Slot} {st' : List Value} {H' : AHeap} (h : act ws dn k y bytes ret pc ls st H = some (.inr (.inl (pc', ls', st', H')))) : H.length ≤ H'.length ∧ tot ws H ≤ tot ws H' ∧ ls'.length = ls.length := by
  obtain ⟨ins, len, hd, ⟨g, rfl⟩ | ⟨rfl, g⟩ | ⟨i, sl, a, r, -, -, -, -, -, -, rfl, -, rfl⟩⟩ := act_step h
  · exact ⟨Nat.le_refl _, Nat.le_refl _, xstep_size g⟩
  · have := hstep_size g; exact ⟨this.1, this.2, rfl⟩
  · exact ⟨Nat.le_refl _, Nat.le_refl _, rfl⟩
end Inv
theorem run_size {ws : Ws} {dn : Dn} {k : Nat} : ∀ {n : Nat} {y : MethodName} {bytes : ByteArray} {ret : Option FieldType} {pc : Nat} {ls : List Slot} {st : List Value} {H : AHeap} {v : Option Value} {H' : AHeap}, run ws dn k n y bytes ret pc ls st H = some (v, H') → H.length ≤ H'.length ∧ tot ws H ≤ tot ws H'
  | 0, _, _, _, _, _, _, _, _, _, h => by cases h
  | n + 1, y, bytes, ret, pc, ls, st, H, v, H', h => by
    rw [run] at h
    split at h
    · cases h
    · cases h; exact ⟨Nat.le_refl _, Nat.le_refl _⟩
    · rename_i g
      have h1 := run_size h
      have h2 := act_size g
      exact ⟨Nat.le_trans h2.1 h1.1, Nat.le_trans h2.2.1 h1.2⟩
    · split at h
      · rename_i g
        have h1 := run_size h
        have h2 := run_size g
        exact ⟨Nat.le_trans h2.1 h1.1, Nat.le_trans h2.2 h1.2⟩
      · cases h
section Snd
/-- from here on the machine comes to a return of v with the heap H' -/
def Goes (p : Program) (l : Launch) (e : Env) (R : Room) (s : State) (m : MethodId) (args : Array Value) (below : List Frame) (meth : Method) (c : Code) (T : State) (Z : State) (ws : Ws) (k sa n0 cells slots : Nat) (H : AHeap) (g : JFrame) (ret : Option FieldType) (v : Option Value) (H' : AHeap) : Prop :=
  ∃ T' locs', Stand p l e R s m args below meth c T' locs' (cells + (H'.length - H.length)) (slots + (tot ws H' - tot ws H)) ∧ Sim Z ws k sa n0 H' T'.heap ∧ Fr n0 locs' ∧ (ret = none → v = none) ∧
    ∀ fs, (∀ (fj : JFrame) (acts : List Action), fj.method = m → fj.locked = none → fj.entered = [] → (doReturn e (T'.setTop fj) acts (v.map (ren (adr k sa n0)))).1 = T'.setFrames fs) → Steps p.tables e below (T.setTop g) (T'.setFrames fs)
variable {p : Program} {l : Launch} {e : Env} {R : Room} {s : State} {m : MethodId} {args : Array Value} {below : List Frame} {meth : Method} {c : Code} {T : State} {locs : List Loc} {cells slots : Nat}
  {Z : State} {a0 : Array Value} {ws : Ws} {dn : Dn} {k sa n0 : Nat}
theorem Goes.of {T1 : State} {H H1 H' : AHeap} {g g1 : JFrame} {ret : Option FieldType} {v : Option Value} (hst : ∀ target, Steps p.tables e below (T1.setTop g1) target → Steps p.tables e below (T.setTop g) target)
    (G : Goes p l e R s m args below meth c T1 Z ws k sa n0 (cells + (H1.length - H.length)) (slots + (tot ws H1 - tot ws H)) H1 g1 ret v H') (m1 : H.length ≤ H1.length ∧ tot ws H ≤ tot ws H1) (m2 : H1.length ≤ H'.length ∧ tot ws H1 ≤ tot ws H') :
    Goes p l e R s m args below meth c T Z ws k sa n0 cells slots H g ret v H' := by
  obtain ⟨T', locs', X', S', N', hv, go⟩ := G
  have e1 : cells + (H1.length - H.length) + (H'.length - H1.length) = cells + (H'.length - H.length) := by omega
  have e2 : slots + (tot ws H1 - tot ws H) + (tot ws H' - tot ws H1) = slots + (tot ws H' - tot ws H) := by omega
  rw [e1, e2] at X'
  exact ⟨T', locs', X', S', N', hv, fun fs hf => hst _ (go fs hf)⟩
def Snd (Z : State) (ws : Ws) (dn : Dn) (k sa n0 n : Nat) : Prop :=
  ∀ (y : MethodName) (bytes : ByteArray) (ret : Option FieldType) (pc : Nat) (ls : List Slot) (st : List Value) (H : AHeap) (v : Option Value) (H' : AHeap), run ws dn k n y bytes ret pc ls st H = some (v, H') →
  ∀ (p : Program) (l : Launch) (e : Env) (R : Room) (s : State) (m : MethodId) (args : Array Value) (below : List Frame) (meth : Method) (c : Code) (T : State) (locs : List Loc) (cells slots : Nat),
    Stand p l e R s m args below meth c T locs cells slots → p.tables.exec = Jvm.exec → Z.Warmed39 s.vm → s.vm.findClass y.cls = some m.cls → meth.name = y.name → meth.sig.returnType = ret → c.code = bytes → ls.length = c.maxLocals →
    (∀ f lc, dnOf dn y = some (f, lc) → f ≤ R.frames ∧ lc ≤ R.locals) → Sim Z ws k sa n0 H T.heap → Fr n0 locs → cells + (H'.length - H.length) ≤ R.cells → slots + (tot ws H' - tot ws H) ≤ R.slots → T.heap.size = s.heap.size + cells →
    Goes p l e R s m args below meth c T Z ws k sa n0 cells slots H (fr (adr k sa n0) m pc ls st) ret v H'
theorem met_of {n : Nat} (ih : Snd Z ws dn k sa n0 n) (l : Launch) {y : MethodName} {b : ByteArray} {mx f lc : Nat} {r : Option FieldType} (wsx : List Jvm.Cond) (hp : Jvm.plainName y.cls = true) {as : List Value} (he : (ent as).length ≤ mx) {H H1 : AHeap} {v : Option Value}
    (hrun : run ws dn k n y b r 0 (entry as mx) [] H = some (v, H1)) (hdn : ∀ f' l', dnOf dn y = some (f', l') → f' ≤ f ∧ l' ≤ lc) {h : Heap} (S : Sim Z ws k sa n0 H h) {rc rs : Nat} (hc : H1.length - H.length ≤ rc) (hs : tot ws H1 - tot ws H ≤ rs) :
    MetFree l y (head1 (Jvm.Cond.code y b mx r :: wsx) ({ frames := f, cells := rc, slots := rs, locals := lc } : Room)) (fun a U => a = (as.map (ren (adr k sa n0))).toArray ∧ Z.Warmed39 U.vm ∧ U.heap = h) (fun _ _ _ _ _ => True)
      (fun _ U o U' => ∃ w L, o = .returned w ∧ (w = v.map (ren (adr k sa n0)) ∧ Sim Z ws k sa n0 H1 U'.heap ∧ Fr n0 L) ∧ FrameEnd U o U' L (H1.length - H.length) (tot ws H1 - tot ws H)) := by
  refine MetFree.of_bodySF (plainFor_of_name hp) hisR ?_
  intro p e s m args below meth c s₁ Bd hml0 hP hK
  obtain ⟨rfl, hZ, hh⟩ := hP
  have hown : s.vm.findClass y.cls = some m.cls := findClass_of_methodNamed Bd.named
  have hnm := (name_of_methodNamed Bd.named Bd.method).1
  have X0 : Stand p l e ({ frames := f, cells := rc, slots := rs, locals := lc } : Room) s m (as.map (ren (adr k sa n0))).toArray below meth c s₁ [] 0 0 := Stand.of_body Bd
  have e0 : s₁.heap = h := by rw [← hh, Bd.state]; rfl
  obtain ⟨T', locs', X', S', N', hv, go⟩ := ih y b r 0 (entry as mx) [] H v H1 hrun p l e _ s m _ below meth c s₁ [] 0 0 X0 Bd.exec hZ hown hnm Bd.returns Bd.bytes (by rw [entry_len he]; exact hml0.symm) hdn (by rw [e0]; exact S) (Fr.nil n0) (by rw [Nat.zero_add]; exact hc) (by rw [Nat.zero_add]; exact hs) (by rw [e0, ← hh, Nat.add_zero])
  obtain ⟨fs, hr, hrun', hended, hW, hsame⟩ := X'.leave (v := v.map (ren (adr k sa n0))) (fun hn => by rw [Bd.returns] at hn; rw [hv hn]; rfl)
  refine ⟨_, _, castTop (entry_eq _ m as mx) (go fs hr), hrun', hended, _, locs', rfl, ⟨rfl, S', N'⟩, ⟨_, rfl⟩, hW, hsame.mono (Nat.le_of_eq (Nat.zero_add _)) (Nat.le_of_eq (Nat.zero_add _))⟩
set_option maxHeartbeats 2000000 in
theorem snd (hw : ∀ d ∈ ws, d.before a0 Z = true) : ∀ n, Snd Z ws dn k sa n0 n
  | 0 => fun y bytes ret pc ls st H v H' h => by cases h
  | n + 1 => fun y bytes ret pc ls st H v H' h p l e R s m args below meth c T locs cells slots X hx hZ hown hnm hret hby hls hF S N hc hl hz0 => by
    have ih := snd hw n
    rw [run] at h
    split at h
    · cases h
    · rename_i v' ha
      cases h
      have stay : ∀ {v : Option Value}, (ret = none → v = none) → (∀ fs, (∀ (fj : JFrame) (acts : List Action), fj.method = m → fj.locked = none → fj.entered = [] → (doReturn e (T.setTop fj) acts (v.map (ren (adr k sa n0)))).1 = T.setFrames fs) → Steps p.tables e below (T.setTop (fr (adr k sa n0) m pc ls st)) (T.setFrames fs)) →
          Goes p l e R s m args below meth c T Z ws k sa n0 cells slots H (fr (adr k sa n0) m pc ls st) ret v H := fun hv hg => ⟨T, locs, by rw [Nat.sub_self, Nat.sub_self]; exact X, S, N, hv, hg⟩
      rcases act_ret ha with ⟨z, r, t, hd, rfl, rfl, ht, rfl⟩ | ⟨z, hd, rfl, rfl, rfl⟩ | ⟨hd, rfl, rfl, rfl⟩
      · refine stay (fun h => by cases h) fun fs hf => ?_
        rcases ht with rfl | ht
        · exact retOut X hx hret (w := .int z) (rest := r.map (ren (adr k sa n0))) rfl (Or.inl ⟨rfl, Or.inl rfl, z, rfl⟩) (hb hby hd) hf
        · exact retN X hx hret ht (hb hby hd) hf
      · exact stay (fun h => by cases h) fun fs hf => retOut X hx hret (w := .long z) (rest := []) rfl (Or.inr (Or.inl ⟨rfl, rfl, z, rfl⟩)) (hb hby hd) hf
      · exact stay (fun _ => rfl) fun fs hf => X.returnOut hx hret (hb hby hd) hf
    · rename_i pc' ls' st' H1 ha
      have m1 := act_size ha
      have m2 := run_size h
      obtain ⟨ins, len, hd, ⟨g, rfl⟩ | ⟨rfl, g⟩ | ⟨i, sl, a, r, rfl, rfl, ho, rfl, hW, rfl, rfl, rfl, rfl⟩⟩ := act_step ha
      · obtain ⟨T', locs', X', S', N', hv, go⟩ := ih y bytes ret pc' ls' st' H1 v H' h p l e R s m args below meth c T locs cells slots X hx hZ hown hnm hret hby (m1.2.2.trans hls) hF S N hc hl hz0
        exact ⟨T', locs', X', S', N', hv, fun fs hf => xstep_sound X.here hx (adr k sa n0) (hb hby hd) g (go fs hf)⟩
      · obtain ⟨T1, locs1, X1, S1, N1, st1⟩ := hstep_sound (ls := ls') hw X hx hZ hown hnm (hb hby hd) g S N (by dsimp only; omega) (by dsimp only; omega) hz0
        dsimp only at X1 S1 st1
        have z1 := S.1
        have z2 := S1.1
        have z3 := S.2.1
        have G := ih y bytes ret pc' ls' st' H1 v H' h p l e R s m args below meth c T1 locs1 _ _ X1 hx hZ hown hnm hret hby hls hF S1 N1 (by omega) (by omega) (by omega)
        exact Goes.of st1 G ⟨m1.1, m1.2.1⟩ m2
      · unfold oR at ho
        split at ho
        · rename_i y1 b1 mx1 r1 f1 l1 q1 q2 q3
          split at ho
          · rename_i g
            cases ho
            obtain ⟨rfl, g2, g3, rfl, rfl, g4, g5⟩ := g
            obtain ⟨u1, u2⟩ := hF _ _ q3
            have eb : b1 = ⟨#[0xb1]⟩ := by cases b1; cases g3; rfl
            subst eb
            obtain ⟨T1, X1, e1, st1⟩ := initO X hx hZ hown (hw _ (rMth_mem q1)) (hw _ (hasIM_mem g2)) (hw _ (rCode_mem q2)) rfl (g := fr (adr k sa n0) m pc ls' (.ref a :: st')) rfl (by simp [hls]) rfl (hb hby hd) (by omega) (W := l1 - 12) (by show 2 * 0 + _ ≤ _; rw [wsum_ren]; omega) (by omega)
            have G := ih y bytes ret (pc + 3) ls' st' H1 v H' h p l e R s m args below meth c T1 locs cells slots X1 hx hZ hown hnm hret hby hls hF (by rw [e1]; exact S) N hc hl (by rw [e1]; exact hz0)
            obtain ⟨T', locs', X', S', N', hv, go⟩ := G
            exact ⟨T', locs', X', S', N', hv, fun fs hf => st1 _ (go fs hf)⟩
          · cases ho
        · cases ho
    · rename_i y' b r en rest ha
      split at h
      · rename_i v1 H1 h1
        have m1 := run_size h1
        have m2 := run_size h
        obtain ⟨i, mx, na, sl, as, hq, rfl, hen, hW, hk⟩ := act_call ha
        obtain ⟨w1, w2, w3, w4, w5, -, f', l', f, lc, sig, d1, d2, d3, d4, d5, d6⟩ := cR_some hq
        obtain ⟨u1, u2⟩ := hF _ _ d2
        have hM := met_of ih l [] w4 hen h1 (f := f') (lc := l') (fun f2 l2 q => by rw [d1] at q; cases q; exact ⟨Nat.le_refl _, Nat.le_refl _⟩) S (Nat.le_refl _) (Nat.le_refl _)
        have hB := backOf (R := R) (p := p) (e := e) (below := below) (s := s) (args := args) (len := 3) (W := sl) (rm := ({ frames := f', cells := H1.length - H.length, slots := tot ws H1 - tot ws H, locals := l' } : Room)) (Q := fun w h L => w = v1.map (ren (adr k sa n0)) ∧ Sim Z ws k sa n0 H1 h ∧ Fr n0 L) hM hZ (hw _ w2) (hw _ w3) (by show f' + 1 ≤ _; omega) (by show sl + (mx + 11) + l' ≤ _; omega)
        have hsz : (fr (adr k sa n0) m pc ls st).locals.size = c.maxLocals := by simp [hls]
        have hWW : ∀ st' : List Value, wsum st' ≤ sl → 2 * (fr (adr k sa n0) m pc ls st).monitorRoom + ((st'.map (ren (adr k sa n0))).map fun v => v.category).sum ≤ sl := fun st' q => by show 2 * 0 + _ ≤ _; rw [wsum_ren]; omega
        have hback : ∀ (v' : Option Value) (vm₁ : Vm) (B : Pt), Stand p l e R s m args below meth c B.U B.locs B.cells B.slots →
            (∃ L, (v' = v1.map (ren (adr k sa n0)) ∧ Sim Z ws k sa n0 H1 B.U.heap ∧ Fr n0 L) ∧ B.locs = locs ++ L ∧ B.cells = cells + (H1.length - H.length) ∧ B.slots = slots + (tot ws H1 - tot ws H)) →
            (∀ target, Steps p.tables e below (B.U.setTop { fr (adr k sa n0) m pc ls st with pc := pc + 3, stack := v'.toList ++ rest.map (ren (adr k sa n0)) }) target → Steps p.tables e below (T.setTop (fr (adr k sa n0) m pc ls st)) target) →
            Goes p l e R s m args below meth c T Z ws k sa n0 cells slots H (fr (adr k sa n0) m pc ls st) ret v H' := by
          rintro v' vm₁ ⟨T1, L1, k1, n1⟩ X1 ⟨Lc, ⟨rfl, S1, N1⟩, l1, y1, z1⟩ st1
          dsimp only [Pt.U, Pt.locs, Pt.cells, Pt.slots] at X1 l1 y1 z1 st1 S1
          subst l1 y1 z1
          have z1 := S.1
          have z2 := S1.1
          have z3 := S.2.1
          have G := ih y bytes ret (pc + 3) ls (v1.toList ++ rest) H1 v H' h p l e R s m args below meth c T1 _ _ _ X1 hx hZ hown hnm hret hby hls hF S1 (Fr.app N N1) (by omega) (by omega) (by omega)
          refine Goes.of (fun target ht => st1 target ?_) G m1 m2
          have e1 : (v1.toList ++ rest).map (ren (adr k sa n0)) = (v1.map (ren (adr k sa n0))).toList ++ rest.map (ren (adr k sa n0)) := by cases v1 <;> simp
          rw [← e1]; exact ht
        rcases hk with ⟨hd, ws1, hna, rfl⟩ | ⟨a, as', rfl, hna, rfl, wi, ⟨hd, hn, rfl⟩ | ⟨hd, C, vs, hH, hpd⟩⟩
        · obtain ⟨v', vm₁, B, -, X1, P1, st1⟩ := Jvm.LawKit.callS X hx (y := y') hown (mvT hZ (hw _ w1)) (mvT hZ (hw _ ws1)) (mvT hZ (hw _ w3)) (mvT hZ (hw _ w2)) w5 hB (g := fr (adr k sa n0) m pc ls (as.reverse ++ rest)) rfl hsz (argsL := as.map (ren (adr k sa n0))) (rest := rest.map (ren (adr k sa n0)))
            (fun sg hsg => by rw [d3] at hsg; cases hsg; simp [hna, d4]) (by simp) (hWW rest hW) (hb hby hd) (fun _ _ => ⟨rfl, rfl, by show cells + (H1.length - H.length) ≤ _; omega, by show slots + (tot ws H1 - tot ws H) ≤ _; omega⟩)
          exact hback v' vm₁ B X1 P1 st1
        · obtain ⟨v', vm₁, B, -, X1, P1, st1⟩ := X.specialBack hx (y := y') hn hown (mvT hZ (hw _ w1)) (mvT hZ (hw _ wi)) (mvT hZ (hw _ w2)) w5 hB (g := fr (adr k sa n0) m pc ls (as'.reverse ++ .ref a :: rest)) rfl hsz (Steps.refl _) (a := adr k sa n0 a) (argsL := as'.map (ren (adr k sa n0))) (rest := rest.map (ren (adr k sa n0)))
            (fun sg hsg => by rw [d3] at hsg; cases hsg; simp [hna, d4]) (by simp [ren]) (hWW rest hW) (hb hby hd) (fun _ _ => ⟨rfl, rfl, by show cells + (H1.length - H.length) ≤ _; omega, by show slots + (tot ws H1 - tot ws H) ≤ _; omega⟩)
          exact hback v' vm₁ B X1 P1 fun target ht => st1.trans ht
        · have E := (S.2.2.2.2 a _ hH).1
          rcases hpd with ⟨wp, ki, wki⟩ | ⟨wd, wsel, rfl⟩
          · obtain ⟨cq, hq1, hq2⟩ := E.cell
            have hpa : s.PrivateAt y' := Cond.privateMethod_at (mvP hZ (hw _ wp) (args := #[]))
            have hsel : (Jvm.Cond.selects y'.cls y' y').before args s = true := by
              have wz : (Jvm.Cond.instantiable y'.cls ki).before args s = true := mvT hZ (hw _ wki)
              obtain ⟨c2, k2, i1, i2, -, i4, -⟩ := Cond.instantiable_spec wz
              exact selects_self_of_private i1 i2 (Bool.or_eq_false_iff.mp i4).1 hpa (mvT hZ (hw _ wi)) w5
            obtain ⟨v', vm₁, B, -, X1, P1, st1⟩ := X.privateBack hx (y := y') hown (mvT hZ (hw _ w1)) (mvT hZ (hw _ wi)) hsel hpa (mvT hZ (hw _ w2)) w5 hB (g := fr (adr k sa n0) m pc ls (as'.reverse ++ .ref a :: rest)) rfl hsz (Steps.refl _) (a := adr k sa n0 a) hq1 hq2 (argsL := as'.map (ren (adr k sa n0))) (rest := rest.map (ren (adr k sa n0)))
              (fun sg hsg => by rw [d3] at hsg; cases hsg; simp [hna, d4]) (by simp [ren]) (hWW rest hW) (hb hby hd) (fun _ _ => ⟨rfl, rfl, by show cells + (H1.length - H.length) ≤ _; omega, by show slots + (tot ws H1 - tot ws H) ≤ _; omega⟩)
            exact hback v' vm₁ B X1 P1 fun target ht => st1.trans ht
          · obtain ⟨cq, kq, qa, qb, qc⟩ := isOf hZ rfl E
            obtain ⟨v', vm₁, B, -, X1, P1, st1⟩ := X.virtualBack hx (y := y') (z := y') hown (mvT hZ (hw _ w1)) (mvT hZ (hw _ wd)) (notFace_of_selects (args := #[]) (mvT hZ (hw _ wsel))) (mvT hZ (hw _ wsel)) (mvT hZ (hw _ wi)) w5 hB qa qc (g := fr (adr k sa n0) m pc ls (as'.reverse ++ .ref a :: rest)) rfl hsz (Steps.refl _) (argsL := as'.map (ren (adr k sa n0))) (rest := rest.map (ren (adr k sa n0)))
              (fun sg hsg => by rw [d3] at hsg; cases hsg; simp [hna, d4]) (by simp [ren]) (hWW rest hW) (hb hby hd) (fun _ _ => ⟨rfl, rfl, by show cells + (H1.length - H.length) ≤ _; omega, by show slots + (tot ws H1 - tot ws H) ≤ _; omega⟩)
            exact hback v' vm₁ B X1 P1 fun target ht => st1.trans ht
      · cases h
end Snd
end Jvm.Own
namespace Jvm.Own
open Sem ClassFile Op Lib Jvm.Stand Jvm.Free Jvm.LawKit Jvm.RoadKit
/-! OWN 6: from here on no machine is in sight -/
theorem run_succ {ws : Ws} {dn : Dn} {k : Nat} : ∀ {n : Nat} {y : MethodName} {bytes : ByteArray} {ret : Option FieldType} {pc : Nat} {ls : List Slot} {st : List Value} {H : AHeap} {r : Option Value × AHeap}, run ws dn k n y bytes ret pc ls st H = some r → run ws dn k (n + 1) y bytes ret pc ls st H = some r
  | 0, _, _, _, _, _, _, _, _, h => by cases h
  | n + 1, y, bytes, ret, pc, ls, st, H, r, h => by
    rw [run] at h
    rw [run]
    split at h
    · cases h
    · exact h
    · exact run_succ h
    · split at h
      · rename_i v H1 g
        rw [run_succ g]
        exact run_succ h
      · cases h
theorem run_mono {ws : Ws} {dn : Dn} {k n n' : Nat} {y : MethodName} {bytes : ByteArray} {ret : Option FieldType} {pc : Nat} {ls : List Slot} {st : List Value} {H : AHeap} {r : Option Value × AHeap} (hn : n ≤ n') (h : run ws dn k n y bytes ret pc ls st H = some r) : run ws dn k n' y bytes ret pc ls st H = some r := by
  induction hn with
  | refl => exact h
  | step _ ih => exact run_succ ih
/-- from here on a run comes to a return at which Q holds -/
def W (ws : Ws) (dn : Dn) (k : Nat) (y : MethodName) (bytes : ByteArray) (ret : Option FieldType) (pc : Nat) (ls : List Slot) (st : List Value) (H : AHeap) (Q : Option Value → AHeap → Prop) : Prop :=
  ∃ n v H', run ws dn k n y bytes ret pc ls st H = some (v, H') ∧ Q v H'
section
variable {ws : Ws} {dn : Dn} {k : Nat} {y : MethodName} {bytes : ByteArray} {ret : Option FieldType} {pc : Nat} {ls : List Slot} {st : List Value} {H : AHeap} {Q : Option Value → AHeap → Prop}
theorem W_step {pc' : Nat} {ls' : List Slot} {st' : List Value} {H' : AHeap} (h : act ws dn k y bytes ret pc ls st H = some (.inr (.inl (pc', ls', st', H')))) : W ws dn k y bytes ret pc ls st H Q = W ws dn k y bytes ret pc' ls' st' H' Q := by
  refine propext ⟨fun ⟨n, v, H1, h1, h2⟩ => ?_, fun ⟨n, v, H1, h1, h2⟩ => ⟨n + 1, v, H1, by rw [run, h]; exact h1, h2⟩⟩
  cases n with
  | zero => cases h1
  | succ n => rw [run, h] at h1; exact ⟨n, v, H1, h1, h2⟩
theorem W_ret {v : Option Value} (h : act ws dn k y bytes ret pc ls st H = some (.inl v)) : W ws dn k y bytes ret pc ls st H Q = Q v H := by
  refine propext ⟨fun ⟨n, v, H1, h1, h2⟩ => ?_, fun h2 => ⟨1, v, H, by rw [run, h], h2⟩⟩
  cases n with
  | zero => cases h1
  | succ n => rw [run, h] at h1; cases h1; exact h2
theorem W_call {y' : MethodName} {b : ByteArray} {r : Option FieldType} {en : List Slot} {rest : List Value} (h : act ws dn k y bytes ret pc ls st H = some (.inr (.inr (y', b, r, en, rest)))) :
    W ws dn k y bytes ret pc ls st H Q = W ws dn k y' b r 0 en [] H (fun v H1 => W ws dn k y bytes ret (pc + 3) ls (v.toList ++ rest) H1 Q) := by
  refine propext ⟨fun ⟨n, v, H1, h1, h2⟩ => ?_, fun ⟨n, v, H1, h1, n', v', H', h2, h3⟩ => ⟨max n n' + 1, v', H', ?_, h3⟩⟩
  · cases n with
    | zero => cases h1
    | succ n =>
      rw [run, h] at h1
      dsimp only at h1
      split at h1
      · rename_i v' H' g; exact ⟨n, v', H', g, n, v, H1, h1, h2⟩
      · cases h1
  · rw [run, h]
    dsimp only
    rw [run_mono (Nat.le_max_left _ _) h1]
    exact run_mono (Nat.le_max_right _ _) h2
theorem W.mono {Q' : Option Value → AHeap → Prop} (h : W ws dn k y bytes ret pc ls st H Q) (hq : ∀ v H', Q v H' → Q' v H') : W ws dn k y bytes ret pc ls st H Q' := by
  obtain ⟨n, v, H', h1, h2⟩ := h; exact ⟨n, v, H', h1, hq _ _ h2⟩
theorem act_x {ins : Instr} {len pc' : Nat} {ls' : List Slot} {st' : List Value} (hd : decode bytes pc = .ok (ins, len)) (hx : xstep ins len pc ls st = some (pc', ls', st')) : act ws dn k y bytes ret pc ls st H = some (.inr (.inl (pc', ls', st', H))) := by
  unfold act; rw [hd]; dsimp only; rw [hx]
theorem act_h {ins : Instr} {len pc' : Nat} {st' : List Value} {H' : AHeap} (hd : decode bytes pc = .ok (ins, len)) (hx : xstep ins len pc ls st = none) (hh : hstep ws k y ins len pc st H = some (pc', st', H')) : act ws dn k y bytes ret pc ls st H = some (.inr (.inl (pc', ls, st', H'))) := by
  unfold act; rw [hd]; dsimp only; rw [hx]; dsimp only; rw [hh]
theorem act_c {ins : Instr} {len : Nat} (hd : decode bytes pc = .ok (ins, len)) (hx : xstep ins len pc ls st = none) (hh : hstep ws k y ins len pc st H = none) : act ws dn k y bytes ret pc ls st H = cstep ws dn y ret ins len pc ls st H := by
  unfold act; rw [hd]; dsimp only; rw [hx]; dsimp only; rw [hh]
/-- a plain step -/
theorem w_x {ins : Instr} {len pc' : Nat} {ls' : List Slot} {st' : List Value} (hd : decode bytes pc = .ok (ins, len)) (hx : xstep ins len pc ls st = some (pc', ls', st')) : W ws dn k y bytes ret pc ls st H Q = W ws dn k y bytes ret pc' ls' st' H Q := W_step (act_x hd hx)
/-- a conditional branch -/
theorem w_if {cd : ClassFile.Cond} {o : Int} {x : Int32} {t : Nat} {P : Prop} [Decidable P] (hd : decode bytes pc = .ok (.ifCond cd o, 3)) (hp : ifCond.holds cd x = decide P) (hj : jmp pc o = some t) :
    W ws dn k y bytes ret pc ls (.int x :: st) H Q = if P then W ws dn k y bytes ret t ls st H Q else W ws dn k y bytes ret (pc + 3) ls st H Q := by
  split
  · exact w_x hd (by simp only [xstep, chk, br, hp, hj, if_true]; simp [*])
  · exact w_x hd (by simp only [xstep, chk, br, hp, hj, if_true]; simp [*])
theorem w_icmp {cd : ClassFile.Cond} {o : Int} {x1 x2 : Int32} {t : Nat} {P : Prop} [Decidable P] (hd : decode bytes pc = .ok (.if_icmp cd o, 3)) (hp : if_icmp.holds cd x1 x2 = decide P) (hj : jmp pc o = some t) :
    W ws dn k y bytes ret pc ls (.int x2 :: .int x1 :: st) H Q = if P then W ws dn k y bytes ret t ls st H Q else W ws dn k y bytes ret (pc + 3) ls st H Q := by
  split
  · exact w_x hd (by simp only [xstep, chk, br, hp, hj, if_true]; simp [*])
  · exact w_x hd (by simp only [xstep, chk, br, hp, hj, if_true]; simp [*])
theorem w_get {i j : Nat} {a : Nat} {C : String} {vs : List Value} {v : Value} (hd : decode bytes pc = .ok (.getfield i, 3)) (hr : gfR ws y.cls i = some (C, j)) (ho : H[a]? = some (.object C, vs)) (hv : vs[j]? = some v) :
    W ws dn k y bytes ret pc ls (.ref a :: st) H Q = W ws dn k y bytes ret (pc + 3) ls (v :: st) H Q :=
  W_step (act_h hd rfl (by simp only [hstep, chk, hGet, hr, ho, hv, if_true, Option.map_some]))
theorem w_put {i j : Nat} {a : Nat} {C : String} {ty : FieldType} {vs : List Value} {v v' : Value} {H' : AHeap} (hd : decode bytes pc = .ok (.putfield i, 3)) (hr : pfR ws y.cls y.name i = some (C, j, ty)) (ho : H[a]? = some (.object C, vs)) (hk : k ≤ a) (hj : j < vs.length) (hv : putv ty v = some v') (hH : H.set a (.object C, vs.set j v') = H') :
    W ws dn k y bytes ret pc ls (v :: .ref a :: st) H Q = W ws dn k y bytes ret (pc + 3) ls st H' Q :=
  W_step (act_h hd rfl (by simp only [hstep, chk, hPut, hr, ho, hv, if_true, true_and, hk, hj, Option.map_some, hH, and_self]))
theorem w_new {i : Nat} {C : String} (hd : decode bytes pc = .ok (.new i, 3)) (hr : hNew ws y.cls i pc H st = some (pc + 3, .ref H.length :: st, H ++ [(.object C, (olay ws C).map dflt)])) :
    W ws dn k y bytes ret pc ls st H Q = W ws dn k y bytes ret (pc + 3) ls (.ref H.length :: st) (H ++ [(.object C, (olay ws C).map dflt)]) Q :=
  W_step (act_h hd rfl (by simp only [hstep, chk, if_true]; exact hr))
theorem w_newA {aty : ArrayType} {n : Int32} {ty : FieldType} (hd : decode bytes pc = .ok (.newarray aty, 2)) (ht : newarray.typeOf aty = ty) (hr : hasArr ws ty = true) (hn : ¬ n < 0) (hb : n.toNatClampNeg * 8 ≤ 536870912) :
    W ws dn k y bytes ret pc ls (.int n :: st) H Q = W ws dn k y bytes ret (pc + 2) ls (.ref H.length :: st) (H ++ [(.array ty, List.replicate n.toNatClampNeg (defaultValue ty))]) Q := by
  subst ht
  exact W_step (act_h hd rfl (by simp only [hstep, chk, hNewA, hr, hn, hb, if_true, not_false_eq_true, and_self]))
/-- may the instruction read an array of that kind? -/
def ldOk : Instr → FieldType → Bool
  | .iaload, .int | .caload, .char | .laload, .long | .baload, .byte | .baload, .boolean => true
  | _, _ => false
def stOk : Instr → FieldType → Bool
  | .iastore, .int | .castore, .char | .lastore, .long | .bastore, .byte | .bastore, .boolean => true
  | _, _ => false
theorem w_ald {ins : Instr} {a : Nat} {j : Int32} {ty : FieldType} {vs : List Value} {v : Value} (hd : decode bytes pc = .ok (ins, 1)) (hi : ldOk ins ty = true) (ho : H[a]? = some (.array ty, vs)) (hj : ¬ j < 0) (hv : vs[j.toNatClampNeg]? = some v) :
    W ws dn k y bytes ret pc ls (.int j :: .ref a :: st) H Q = W ws dn k y bytes ret (pc + 1) ls (v :: st) H Q := by
  unfold ldOk at hi
  split at hi
  all_goals first
    | exact W_step (act_h hd rfl (by simp only [hstep, chk, hLd, okT, okB, ho, hv, hj, if_true, Option.map_some, decide_true, not_false_eq_true, and_self, Bool.or_true, Bool.true_or]))
    | cases hi
theorem w_ast {ins : Instr} {a : Nat} {j : Int32} {ty : FieldType} {vs : List Value} {v v' : Value} {H' : AHeap} (hd : decode bytes pc = .ok (ins, 1)) (hi : stOk ins ty = true) (ho : H[a]? = some (.array ty, vs)) (hk : k ≤ a) (hj : ¬ j < 0) (hl : j.toNatClampNeg < vs.length) (hv : putv ty v = some v') (hH : H.set a (.array ty, vs.set j.toNatClampNeg v') = H') :
    W ws dn k y bytes ret pc ls (v :: .int j :: .ref a :: st) H Q = W ws dn k y bytes ret (pc + 1) ls st H' Q := by
  unfold stOk at hi
  split at hi
  all_goals first
    | exact W_step (act_h hd rfl (by simp only [hstep, chk, hSt, okT, okB, ho, hv, hj, hk, hl, hH, if_true, Option.map_some, decide_true, not_false_eq_true, and_self, Bool.or_true, Bool.true_or]))
    | cases hi
theorem w_len {a : Nat} {ty : FieldType} {vs : List Value} (hd : decode bytes pc = .ok (.arraylength, 1)) (ho : H[a]? = some (.array ty, vs)) :
    W ws dn k y bytes ret pc ls (.ref a :: st) H Q = W ws dn k y bytes ret (pc + 1) ls (.int vs.length.toInt32 :: st) H Q :=
  W_step (act_h hd rfl (by simp only [hstep, chk, hLen, ho, if_true]))
theorem w_ldc {i : Nat} {v : Int32} (hd : decode bytes pc = .ok (.ldc i, 2)) (hr : rCon ws y.cls i = some v) : W ws dn k y bytes ret pc ls st H Q = W ws dn k y bytes ret (pc + 2) ls (.int v :: st) H Q :=
  W_step (act_h hd rfl (by simp only [hstep, chk, hr, if_true, Option.map_some]))
theorem w_ldcw {i : Nat} {v : Int32} (hd : decode bytes pc = .ok (.ldc_w i, 3)) (hr : rCon ws y.cls i = some v) : W ws dn k y bytes ret pc ls st H Q = W ws dn k y bytes ret (pc + 3) ls (.int v :: st) H Q :=
  W_step (act_h hd rfl (by simp only [hstep, chk, hr, if_true, Option.map_some]))
theorem w_ldc2 {i : Nat} {v : Int64} (hd : decode bytes pc = .ok (.ldc2_w i, 3)) (hr : rConL ws y.cls i = some v) : W ws dn k y bytes ret pc ls st H Q = W ws dn k y bytes ret (pc + 3) ls (.long v :: st) H Q :=
  W_step (act_h hd rfl (by simp only [hstep, chk, hr, if_true, Option.map_some]))
theorem w_iret {z : Int32} (hd : decode bytes pc = .ok (.ireturn, 1)) (hr : ret = some .int) : W ws dn k y bytes ret pc ls (.int z :: st) H Q = Q (some (.int z)) H := by
  subst hr; exact W_ret (by rw [act_c hd rfl rfl]; rfl)
theorem w_iretN {z : Int32} {t : FieldType} (hd : decode bytes pc = .ok (.ireturn, 1)) (hr : ret = some t) (ht : t = .int ∨ t = .boolean ∨ t = .byte ∨ t = .char ∨ t = .short) : W ws dn k y bytes ret pc ls (.int z :: st) H Q = Q (some (.int (nar t z))) H := by
  subst hr; exact W_ret (by rw [act_c hd rfl rfl]; simp only [cstep, chk, if_true, ht])
theorem w_lret {z : Int64} (hd : decode bytes pc = .ok (.lreturn, 1)) (hr : ret = some .long) : W ws dn k y bytes ret pc ls [.long z] H Q = Q (some (.long z)) H := by
  subst hr; exact W_ret (by rw [act_c hd rfl rfl]; rfl)
theorem w_vret (hd : decode bytes pc = .ok (.return_, 1)) (hr : ret = none) : W ws dn k y bytes ret pc ls [] H Q = Q none H := by
  subst hr; exact W_ret (by rw [act_c hd rfl rfl]; rfl)
theorem w_obj {i sl : Nat} {a : Nat} (hd : decode bytes pc = .ok (.invokespecial i, 3)) (hr : oR ws dn y i = some sl) (hw : wsum st ≤ sl) : W ws dn k y bytes ret pc ls (.ref a :: st) H Q = W ws dn k y bytes ret (pc + 3) ls st H Q :=
  W_step (by rw [act_c hd rfl rfl]; simp only [cstep, chk, if_true, hr, hw])
theorem w_stat {i mx na sl : Nat} {y' : MethodName} {b : ByteArray} {r : Option FieldType} {as rest : List Value} {en : List Slot} (hd : decode bytes pc = .ok (.invokestatic i, 3)) (hr : sR ws dn y i = some (y', b, mx, r, na, sl)) (hn : as.length = na) (hw : wsum rest ≤ sl) (he : (ent as.reverse).length ≤ mx) (hen : entry as.reverse mx = en) :
    W ws dn k y bytes ret pc ls (as ++ rest) H Q = W ws dn k y' b r 0 en [] H (fun v H1 => W ws dn k y bytes ret (pc + 3) ls (v.toList ++ rest) H1 Q) := by
  subst hn hen
  have e1 : (as ++ rest).take as.length = as := by simp
  have e2 : (as ++ rest).drop as.length = rest := by simp
  exact W_call (by rw [act_c hd rfl rfl]; simp only [cstep, chk, if_true, hr, e1, e2, hw, he, List.length_append, Nat.le_add_right, and_self])
theorem w_spec {i mx na sl a : Nat} {y' : MethodName} {b : ByteArray} {r : Option FieldType} {as rest : List Value} {en : List Slot} (hd : decode bytes pc = .ok (.invokespecial i, 3)) (h0 : oR ws dn y i = none) (hr : nR ws dn y i = some (y', b, mx, r, na, sl)) (hn : as.length = na) (hw : wsum rest ≤ sl) (he : (ent (.ref a :: as.reverse)).length ≤ mx) (hen : entry (.ref a :: as.reverse) mx = en) :
    W ws dn k y bytes ret pc ls (as ++ .ref a :: rest) H Q = W ws dn k y' b r 0 en [] H (fun v H1 => W ws dn k y bytes ret (pc + 3) ls (v.toList ++ rest) H1 Q) := by
  subst hn hen
  have e1 : (as ++ .ref a :: rest).take as.length = as := by simp
  have e2 : (as ++ .ref a :: rest).drop as.length = .ref a :: rest := by simp
  exact W_call (by rw [act_c hd rfl rfl]; simp only [cstep, chk, if_true, h0, hr, e1, e2, hw, he, List.length_append, Nat.le_add_right, and_self])
theorem w_virt {i mx na sl a : Nat} {pv : Bool} {y' : MethodName} {b : ByteArray} {r : Option FieldType} {as rest : List Value} {en : List Slot} {C : String} {vs : List Value} (hd : decode bytes pc = .ok (.invokevirtual i, 3)) (hr : vR ws dn y i = some (pv, y', b, mx, r, na, sl)) (ho : H[a]? = some (.object C, vs)) (hC : C = y'.cls) (hn : as.length = na) (hw : wsum rest ≤ sl) (he : (ent (.ref a :: as.reverse)).length ≤ mx) (hen : entry (.ref a :: as.reverse) mx = en) :
    W ws dn k y bytes ret pc ls (as ++ .ref a :: rest) H Q = W ws dn k y' b r 0 en [] H (fun v H1 => W ws dn k y bytes ret (pc + 3) ls (v.toList ++ rest) H1 Q) := by
  subst hn hen hC
  have e1 : (as ++ .ref a :: rest).take as.length = as := by simp
  have e2 : (as ++ .ref a :: rest).drop as.length = .ref a :: rest := by simp
  exact W_call (by rw [act_c hd rfl rfl]; simp only [cstep, chk, if_true, hr, e1, e2, ho, hw, he, List.length_append, Nat.le_add_right, and_self, or_true])
end
theorem law_of {Z : State} {a0 : Array Value} {ws : Ws} {dn : Dn} {k sa n0 : Nat} (hw : ∀ d ∈ ws, d.before a0 Z = true) (l : Launch) {y : MethodName} {b : ByteArray} {mx f lc rc rs : Nat} {r : Option FieldType} (wsx : List Jvm.Cond) (hp : Jvm.plainName y.cls = true) {as : List Value} (he : (ent as).length ≤ mx) {H : AHeap}
    (hW : W ws dn k y b r 0 (entry as mx) [] H (fun v H1 => v = some (.int 1) ∧ H1.length - H.length ≤ rc ∧ tot ws H1 - tot ws H ≤ rs)) (hdn : ∀ f' l', dnOf dn y = some (f', l') → f' ≤ f ∧ l' ≤ lc) {h : Heap} (S : Sim Z ws k sa n0 H h) :
    MetFree l y (head1 (Jvm.Cond.code y b mx r :: wsx) ({ frames := f, cells := rc, slots := rs, locals := lc } : Room)) (fun a U => a = (as.map (ren (adr k sa n0))).toArray ∧ Z.Warmed39 U.vm ∧ U.heap = h) (fun _ _ _ _ _ => True)
      (fun _ U o U' => ∃ w L, o = .returned w ∧ (w = some (.int 1) ∧ Fr n0 L) ∧ FrameEnd U o U' L rc rs) := by
  obtain ⟨n, v, H1, h1, rfl, h3, h4⟩ := hW
  have M := met_of (snd hw n) l wsx hp he h1 hdn S h3 h4
  intro p e ha hc hk s m args below hf happ hP hK
  obtain ⟨n', o, g1, g2, g3, w, L, rfl, ⟨rfl, -, N⟩, F⟩ := M p e ha hc hk s m args below hf happ hP hK
  exact ⟨n', _, g1, g2, g3, _, L, rfl, ⟨rfl, N⟩, F.1, F.2.1, F.2.2.mono h3 h4⟩
/-- the start of a law whose arguments hold no reference -/
theorem Sim.empty (Z : State) (ws : Ws) (h : Heap) : Sim Z ws 0 0 h.size [] h :=
  ⟨by simp, Nat.le_refl _, Nat.zero_le _, (fun q => absurd q (by decide)), (fun i o q => by simp at q)⟩
/-- the start of a law over one array of ints -/
theorem Sim.script {Z : State} (ws : Ws) {h : Heap} {a : Addr} {c : Cell} {vs : List Int32} (A : Arr Z h a c .int) (e : c.slots = (vs.map Value.int).toArray) : Sim Z ws 1 a h.size [(.array .int, vs.map Value.int)] h := by
  refine ⟨by simp, Nat.le_refl _, Nat.le_refl _, fun _ => A.lt, fun i o q => ?_⟩
  cases i with
  | zero =>
    cases q
    refine ⟨c, A, e.trans ?_⟩
    rw [List.map_map]; rfl
  | succ i => cases q
end Jvm.Own
namespace Jvm.Own
open Sem ClassFile Op Lib Jvm.Stand Jvm.Free Jvm.LawKit Jvm.RoadKit
/-! OWN 7: states of an object as plain functions -/
def ou {α : Type} (s : Nat → α) (i : Nat) (v : α) : Nat → α := fun j => if j = i then v else s j
theorem ou_a {α : Type} (s : Nat → α) (i : Nat) (v : α) (j : Nat) : ou s i v j = if j = i then v else s j := rfl
def pad (b : Nat) (pre : AHeap) : AHeap := (pre ++ List.replicate b (FieldType.int, [])).take b
theorem pad_len (b : Nat) (pre : AHeap) : (pad b pre).length = b := by simp [pad]
theorem pad_eq {b : Nat} {pre : AHeap} (h : pre.length = b) : pad b pre = pre := by subst h; simp [pad]
theorem pad_0 (pre : AHeap) : pad 0 pre = [] := by simp [pad]
theorem tot_cons (ws : Ws) (o : FieldType × List Value) (r : AHeap) : tot ws (o :: r) = cost ws o + tot ws r := by simp [tot]
theorem tot_append (ws : Ws) (a r : AHeap) : tot ws (a ++ r) = tot ws a + tot ws r := by simp [tot]
theorem tot_nil (ws : Ws) : tot ws [] = 0 := rfl
theorem pad_get (b : Nat) (pre r : AHeap) (i : Nat) : (pad b pre ++ r)[b + i]? = r[i]? := by
  rw [List.getElem?_append_right (by rw [pad_len]; omega), pad_len]; congr 1; omega
theorem pad_get0 (b : Nat) (pre r : AHeap) : (pad b pre ++ r)[b]? = r[0]? := pad_get b pre r 0
theorem pad_set (b : Nat) (pre r : AHeap) (i : Nat) (o : FieldType × List Value) : (pad b pre ++ r).set (b + i) o = pad b pre ++ r.set i o := by
  rw [List.set_append_right _ _ (by rw [pad_len]; omega), pad_len]; congr 2; omega
theorem pad_set0 (b : Nat) (pre r : AHeap) (o : FieldType × List Value) : (pad b pre ++ r).set b o = pad b pre ++ r.set 0 o := pad_set b pre r 0 o
theorem rCode_of {ws : Ws} {y : MethodName} {b : ByteArray} {m i : Nat} {r : Option FieldType} (h : ws[i]? = some (.code y b m r)) (h2 : (ws.take i).all (fun d => match d with | .code z _ _ _ => !decide (z = y) | _ => true) = true) : rCode ws y = some (b, m, r) := by
  have e : ws = ws.take i ++ (.code y b m r :: ws.drop (i + 1)) := by
    obtain ⟨hi, hg⟩ := List.getElem?_eq_some_iff.mp h
    rw [← hg, ← List.drop_eq_getElem_cons hi, List.take_append_drop]
  unfold rCode
  rw [e, List.findSome?_append]
  have e1 : (ws.take i).findSome? (fun d => match d with | .code z b m r => if z = y then some (b, m, r) else none | _ => none) = none := by
    rw [List.findSome?_eq_none_iff]
    intro d hd
    have q := List.all_eq_true.mp h2 d hd
    split
    · rename_i z b' m' r'
      simp at q
      simp [q]
    · rfl
  rw [e1]
  simp
theorem cR_of {ws : Ws} {dn : Dn} {y y' : MethodName} {b : ByteArray} {mx i f' l' f l na sl : Nat} {r : Option FieldType} {sig : MethodDescriptor} (h1 : rMth ws y.cls i = some y') (h2 : rCode ws y' = some (b, mx, r)) (h3 : dnOf dn y' = some (f', l')) (h4 : dnOf dn y = some (f, l)) (h5 : parseMethodDescriptor y'.desc = some sig)
    (h6 : decide (hasInit ws y'.cls = true ∧ Jvm.plainName y'.cls = true ∧ y'.cls ≠ "java/lang/invoke/MethodHandle" ∧ y'.cls ≠ "java/lang/invoke/VarHandle" ∧ f' + 1 ≤ f ∧ mx + 11 + l' ≤ l) = true) (h7 : sig.parameters.length = na) (h8 : l - (mx + 11 + l') = sl) : cR ws dn y i = some (y', b, mx, r, na, sl) := by
  subst h7 h8
  unfold cR
  rw [h1]; dsimp only
  rw [h2, h3, h4, h5]; dsimp only
  rw [if_pos (of_decide_eq_true h6)]
theorem sR_of {ws : Ws} {dn : Dn} {y : MethodName} {i : Nat} {q : MethodName × ByteArray × Nat × Option FieldType × Nat × Nat} (h : cR ws dn y i = some q) (hs : hasStat ws q.1 = true) : sR ws dn y i = some q := by
  unfold sR; rw [h]; dsimp only; rw [if_pos hs]
theorem nR_of {ws : Ws} {dn : Dn} {y : MethodName} {i : Nat} {q : MethodName × ByteArray × Nat × Option FieldType × Nat × Nat} (h : cR ws dn y i = some q) (h1 : q.1.name = "<init>") (h2 : hasIM ws q.1 = true) (h3 : q.2.2.2.1 = none) : nR ws dn y i = some q := by
  unfold nR; rw [h]; dsimp only; rw [if_pos ⟨h1, h2, h3⟩]
theorem vR_of {ws : Ws} {dn : Dn} {y : MethodName} {i : Nat} {q : MethodName × ByteArray × Nat × Option FieldType × Nat × Nat} (h : cR ws dn y i = some q) (h1 : hasIM ws q.1 = true) (h2 : decide (hasPriv ws q.1 = true ∧ (rInst ws q.1.cls).isSome = true) = false) (h3 : decide (hasDecl ws q.1 = true ∧ hasSel ws q.1 = true) = true) : vR ws dn y i = some (false, q) := by
  unfold vR; rw [h]; dsimp only; rw [if_pos h1, if_neg (of_decide_eq_false h2), if_pos (of_decide_eq_true h3)]
theorem pR_of {ws : Ws} {dn : Dn} {y : MethodName} {i : Nat} {q : MethodName × ByteArray × Nat × Option FieldType × Nat × Nat} (h : cR ws dn y i = some q) (h1 : hasIM ws q.1 = true) (h2 : decide (hasPriv ws q.1 = true ∧ (rInst ws q.1.cls).isSome = true) = true) : vR ws dn y i = some (true, q) := by
  unfold vR; rw [h]; dsimp only; rw [if_pos h1, if_pos (of_decide_eq_true h2)]
def inB {α : Type} (j : Int32) (l : List α) : Prop := ¬ j < 0 ∧ j.toNatClampNeg < l.length
def getA (l : List Int32) (j : Int32) : Int32 := l.getD j.toNatClampNeg 0
def getL (l : List Int64) (j : Int32) : Int64 := l.getD j.toNatClampNeg 0
def setA {α : Type} (l : List α) (j : Int32) (v : α) : List α := l.set j.toNatClampNeg v
def c1 : Slot → Bool
  | .unset => true
  | .second => false
  | .val v => v.category == 1
theorem c1_u : c1 .unset = true := rfl
theorem c1_i (x : Int32) : c1 (.val (.int x)) = true := rfl
theorem c1_r (a : Nat) : c1 (.val (.ref a)) = true := rfl
theorem c1_n : c1 (.val .null) = true := rfl
theorem i_eq (x y : Int32) : if_icmp.holds .eq x y = decide (x = y) := by simp only [if_icmp.holds]; by_cases h : x = y <;> simp [h]
theorem i_ne (x y : Int32) : if_icmp.holds .ne x y = !decide (x = y) := by simp only [if_icmp.holds]; by_cases h : x = y <;> simp [h]
theorem i_lt (x y : Int32) : if_icmp.holds .lt x y = decide (x < y) := rfl
theorem i_gt (x y : Int32) : if_icmp.holds .gt x y = decide (y < x) := rfl
theorem i_ge (x y : Int32) : if_icmp.holds .ge x y = !decide (x < y) := by
  show decide (y ≤ x) = _
  have e1 : (y ≤ x) ↔ ¬ (x < y) := by rw [Int32.le_iff_toInt_le, Int32.lt_iff_toInt_lt]; omega
  by_cases h : x < y
  · have : ¬ y ≤ x := fun g => e1.mp g h
    simp [h, this]
  · have := e1.mpr h
    simp [h, this]
theorem i_le (x y : Int32) : if_icmp.holds .le x y = !decide (y < x) := i_ge y x
theorem z_eq (x : Int32) : ifCond.holds .eq x = decide (x = 0) := i_eq x 0
theorem z_ne (x : Int32) : ifCond.holds .ne x = !decide (x = 0) := i_ne x 0
theorem z_lt (x : Int32) : ifCond.holds .lt x = decide (x < 0) := rfl
theorem z_gt (x : Int32) : ifCond.holds .gt x = decide (0 < x) := rfl
theorem z_ge (x : Int32) : ifCond.holds .ge x = !decide (x < 0) := i_ge x 0
theorem z_le (x : Int32) : ifCond.holds .le x = !decide (0 < x) := i_le x 0
theorem nb0 : nar .boolean 0 = 0 := by decide
theorem nb1 : nar .boolean 1 = 1 := by decide
section
variable {ws : Ws} {dn : Dn} {k : Nat} {y : MethodName} {bytes : ByteArray} {ret : Option FieldType} {pc : Nat} {ls : List Slot} {st : List Value} {H : AHeap} {Q : Option Value → AHeap → Prop}
theorem W_stuck (h : act ws dn k y bytes ret pc ls st H = none) : W ws dn k y bytes ret pc ls st H Q = False := by
  refine propext ⟨fun ⟨n, v, H1, h1, h2⟩ => ?_, False.elim⟩
  cases n with
  | zero => cases h1
  | succ n => rw [run, h] at h1; cases h1
theorem stl_c1 {i : Nat} {o : Slot} {v : Value} (ho : ls[i]? = some o) (hc : c1 o = true) (hv : v.category = 1) : stl ls i v = some (ls.set i (.val v)) := by
  have h := XS.store1 (l := ls.toArray) (i := i) (v := v) (o := o) (by simpa using ho) (by
    cases o with
    | unset => exact Or.inl rfl
    | second => cases hc
    | val w => exact Or.inr ⟨w, rfl, by simpa [c1] using hc⟩) hv
  unfold stl
  rw [h]; simp
/-- a store of one word -/
theorem w_st {ins : Instr} {len i : Nat} {o : Slot} {v : Value} {p : Value → Bool} {nx : Nat} {ls' : List Slot} (hd : decode bytes pc = .ok (ins, len)) (hx : xstep ins len pc ls (v :: st) = stV p nx i ls (v :: st)) (hp : p v = true) (hv : v.category = 1) (ho : ls[i]? = some o) (hs : ls.set i (.val v) = ls') (hc : c1 o = true) :
    W ws dn k y bytes ret pc ls (v :: st) H Q = W ws dn k y bytes ret nx ls' st H Q := by
  subst hs
  exact w_x hd (by rw [hx]; simp only [stV, hp, if_true, stl_c1 ho hc hv, Option.map_some])
theorem w_iinc {i : Nat} {c : Int} {x z : Int32} {ls' : List Slot} (hd : decode bytes pc = .ok (.iinc i c, 3)) (ho : ls[i]? = some (.val (.int x))) (hz : Int32.ofInt c = z) (hs : ls.set i (.val (.int (x + z))) = ls') :
    W ws dn k y bytes ret pc ls st H Q = W ws dn k y bytes ret (pc + 3) ls' st H Q := by
  subst hs hz
  exact w_x hd (by simp only [xstep, chk, if_true, ho, stl_c1 (v := .int (x + Int32.ofInt c)) ho rfl rfl, Option.map_some])
theorem w_con {ins : Instr} {len nx : Nat} {v v' : Value} (hd : decode bytes pc = .ok (ins, len)) (hx : xstep ins len pc ls st = some (nx, ls, v :: st)) (hv : v = v') : W ws dn k y bytes ret pc ls st H Q = W ws dn k y bytes ret nx ls (v' :: st) H Q := by
  subst hv; exact w_x hd hx
theorem w_ifN {cd : ClassFile.Cond} {o : Int} {x : Int32} {t : Nat} {P : Prop} [Decidable P] (hd : decode bytes pc = .ok (.ifCond cd o, 3)) (hp : ifCond.holds cd x = !decide P) (hj : jmp pc o = some t) :
    W ws dn k y bytes ret pc ls (.int x :: st) H Q = if P then W ws dn k y bytes ret (pc + 3) ls st H Q else W ws dn k y bytes ret t ls st H Q := by
  split
  · exact w_x hd (by simp only [xstep, chk, br, hp, hj, if_true]; simp [*])
  · exact w_x hd (by simp only [xstep, chk, br, hp, hj, if_true]; simp [*])
theorem w_icmpN {cd : ClassFile.Cond} {o : Int} {x1 x2 : Int32} {t : Nat} {P : Prop} [Decidable P] (hd : decode bytes pc = .ok (.if_icmp cd o, 3)) (hp : if_icmp.holds cd x1 x2 = !decide P) (hj : jmp pc o = some t) :
    W ws dn k y bytes ret pc ls (.int x2 :: .int x1 :: st) H Q = if P then W ws dn k y bytes ret (pc + 3) ls st H Q else W ws dn k y bytes ret t ls st H Q := by
  split
  · exact w_x hd (by simp only [xstep, chk, br, hp, hj, if_true]; simp [*])
  · exact w_x hd (by simp only [xstep, chk, br, hp, hj, if_true]; simp [*])
theorem ld_stuck {ins : Instr} {a : Nat} {j : Int32} {ty : FieldType} {vs : List Value} (hd : decode bytes pc = .ok (ins, 1)) (hi : ldOk ins ty = true) (ho : H[a]? = some (.array ty, vs)) (hj : ¬ (¬ j < 0 ∧ j.toNatClampNeg < vs.length)) : act ws dn k y bytes ret pc ls (.int j :: .ref a :: st) H = none := by
  have hv : j < 0 ∨ vs[j.toNatClampNeg]? = none := by
    by_cases q : j < 0
    · exact Or.inl q
    · exact Or.inr (List.getElem?_eq_none (Nat.le_of_not_lt fun g => hj ⟨q, g⟩))
  unfold ldOk at hi
  split at hi
  all_goals first
    | (rw [act_c hd rfl (by rcases hv with q | q <;> simp [hstep, chk, hLd, okT, okB, ho, q])]; rfl)
    | cases hi
theorem st_stuck {ins : Instr} {a : Nat} {j : Int32} {ty : FieldType} {vs : List Value} {v : Value} (hd : decode bytes pc = .ok (ins, 1)) (hi : stOk ins ty = true) (ho : H[a]? = some (.array ty, vs)) (hj : ¬ (¬ j < 0 ∧ j.toNatClampNeg < vs.length)) : act ws dn k y bytes ret pc ls (v :: .int j :: .ref a :: st) H = none := by
  have hv : ¬ (¬ j < 0 ∧ j.toNatClampNeg < vs.length) := hj
  unfold stOk at hi
  split at hi
  all_goals first
    | (rw [act_c hd rfl (by simp only [hstep, chk, hSt, okT, okB, ho, if_true]; rw [if_neg (fun q => hv q.2.2)])]; rfl)
    | cases hi
theorem w_ild {ins : Instr} {a : Nat} {j : Int32} {ty : FieldType} {l : List Int32} (hd : decode bytes pc = .ok (ins, 1)) (hi : ldOk ins ty = true) (ho : H[a]? = some (.array ty, l.map Value.int)) :
    W ws dn k y bytes ret pc ls (.int j :: .ref a :: st) H Q = (inB j l ∧ W ws dn k y bytes ret (pc + 1) ls (.int (getA l j) :: st) H Q) := by
  by_cases h : inB j l
  · rw [w_ald hd hi ho h.1 (v := .int (getA l j)) (by simp [getA, h.2])]
    simp [h]
  · rw [W_stuck (ld_stuck hd hi ho (by simpa [inB] using h))]
    simp [h]
theorem w_lld {a : Nat} {j : Int32} {l : List Int64} (hd : decode bytes pc = .ok (.laload, 1)) (ho : H[a]? = some (.array .long, l.map Value.long)) :
    W ws dn k y bytes ret pc ls (.int j :: .ref a :: st) H Q = (inB j l ∧ W ws dn k y bytes ret (pc + 1) ls (.long (getL l j) :: st) H Q) := by
  by_cases h : inB j l
  · rw [w_ald hd rfl ho h.1 (v := .long (getL l j)) (by simp [getL, h.2])]
    simp [h]
  · rw [W_stuck (ld_stuck hd rfl ho (by simpa [inB] using h))]
    simp [h]
theorem w_ist {ins : Instr} {a : Nat} {j v v' : Int32} {ty : FieldType} {l : List Int32} {H' : AHeap} (hd : decode bytes pc = .ok (ins, 1)) (hi : stOk ins ty = true) (ho : H[a]? = some (.array ty, l.map Value.int)) (hk : k ≤ a) (hv : putv ty (.int v) = some (.int v')) (hH : H.set a (.array ty, (setA l j v').map Value.int) = H') :
    W ws dn k y bytes ret pc ls (.int v :: .int j :: .ref a :: st) H Q = (inB j l ∧ W ws dn k y bytes ret (pc + 1) ls st H' Q) := by
  by_cases h : inB j l
  · rw [w_ast (H' := H') hd hi ho hk h.1 (by simpa using h.2) hv (by rw [← hH, setA, List.map_set])]
    simp [h]
  · rw [W_stuck (st_stuck hd hi ho (by simpa [inB] using h))]
    simp [h]
theorem w_lst {a : Nat} {j : Int32} {v : Int64} {l : List Int64} {H' : AHeap} (hd : decode bytes pc = .ok (.lastore, 1)) (ho : H[a]? = some (.array .long, l.map Value.long)) (hk : k ≤ a) (hH : H.set a (.array .long, (setA l j v).map Value.long) = H') :
    W ws dn k y bytes ret pc ls (.long v :: .int j :: .ref a :: st) H Q = (inB j l ∧ W ws dn k y bytes ret (pc + 1) ls st H' Q) := by
  by_cases h : inB j l
  · rw [w_ast (H' := H') hd rfl ho hk h.1 (by simpa using h.2) rfl (by rw [← hH, setA, List.map_set])]
    simp [h]
  · rw [W_stuck (st_stuck hd rfl ho (by simpa [inB] using h))]
    simp [h]
theorem w_div {ins : Instr} {f : Int32 → Int32 → Int32} {x z : Int32} (hd : decode bytes pc = .ok (ins, 1)) (hx : ∀ st, xstep ins 1 pc ls st = d2 f (pc + 1) ls st) (hh : hstep ws k y ins 1 pc (.int z :: .int x :: st) H = none) (hc : cstep ws dn y ret ins 1 pc ls (.int z :: .int x :: st) H = none) :
    W ws dn k y bytes ret pc ls (.int z :: .int x :: st) H Q = (z ≠ 0 ∧ W ws dn k y bytes ret (pc + 1) ls (.int (f x z) :: st) H Q) := by
  by_cases h : z = 0
  · rw [W_stuck (by rw [act_c hd (by rw [hx]; simp [d2, h]) hh, hc])]; simp [h]
  · rw [w_x (pc' := pc + 1) (ls' := ls) (st' := .int (f x z) :: st) hd (by rw [hx]; simp only [d2, h, if_false])]; simp [h]
/-- a field's array made in a constructor -/
theorem w_iarr {i j p1 p2 p3 : Nat} {C : String} {vs : List Value} {r : AHeap} {n : Int32} {v : Value} {aty : ArrayType} {ty at' : FieldType} {l0 : Slot} {lr : List Slot} {ins : Instr} {len : Nat} {b : Nat} (hl : l0 = .val (.ref b)) (hH : H.length = b) (hk : k ≤ b)
    (d0 : decode bytes pc = .ok (.aload_n 0, 1)) (e0 : pc + 1 = p1) (dn1 : decode bytes p1 = .ok (ins, len)) (hx : ∀ st, xstep ins len p1 (l0 :: lr) st = some (p2, l0 :: lr, v :: st)) (hv : v = .int n) (d2' : decode bytes p2 = .ok (.newarray aty, 2)) (ht : newarray.typeOf aty = ty) (hr : hasArr ws ty = true) (hn : ¬ n < 0) (hb : n.toNatClampNeg * 8 ≤ 536870912) (e3 : p2 + 2 = p3)
    (d3 : decode bytes p3 = .ok (.putfield i, 3)) (hp : pfR ws y.cls y.name i = some (C, j, .array at')) (hj : j < vs.length) :
    W ws dn k y bytes ret pc (l0 :: lr) [] (H ++ (.object C, vs) :: r) Q = W ws dn k y bytes ret (p3 + 3) (l0 :: lr) [] (H ++ (.object C, vs.set j (.ref (b + (r.length + 1)))) :: (r ++ [(.array ty, List.replicate n.toNatClampNeg (defaultValue ty))])) Q := by
  subst hl e0 e3 hv hH
  rw [w_x d0 (ls' := .val (.ref H.length) :: lr) (st' := [.ref H.length]) (pc' := pc + 1) rfl, w_x dn1 (hx _), w_newA d2' ht hr hn hb]
  have e1 : (H ++ (FieldType.object C, vs) :: r).length = H.length + (r.length + 1) := by simp
  rw [e1, w_put d3 hp (vs := vs) (H' := H ++ (.object C, vs.set j (.ref (H.length + (r.length + 1)))) :: (r ++ [(.array ty, List.replicate n.toNatClampNeg (defaultValue ty))])) (by simp) hk hj rfl (by simp)]
/-- a field's plain value put at a constructor's head -/
theorem w_iint {i j p1 p2 : Nat} {C : String} {vs : List Value} {r : AHeap} {v v0 v' : Value} {ty : FieldType} {l0 : Slot} {lr : List Slot} {ins : Instr} {len : Nat} {b : Nat} (hl : l0 = .val (.ref b)) (hH : H.length = b) (hk : k ≤ b)
    (d0 : decode bytes pc = .ok (.aload_n 0, 1)) (e0 : pc + 1 = p1) (dn1 : decode bytes p1 = .ok (ins, len)) (hx : ∀ st, xstep ins len p1 (l0 :: lr) st = some (p2, l0 :: lr, v0 :: st)) (hv : v0 = v)
    (d3 : decode bytes p2 = .ok (.putfield i, 3)) (hp : pfR ws y.cls y.name i = some (C, j, ty)) (hv' : putv ty v = some v') (hj : j < vs.length) :
    W ws dn k y bytes ret pc (l0 :: lr) [] (H ++ (.object C, vs) :: r) Q = W ws dn k y bytes ret (p2 + 3) (l0 :: lr) [] (H ++ (.object C, vs.set j v') :: r) Q := by
  subst hl e0 hv hH
  rw [w_x d0 (ls' := .val (.ref H.length) :: lr) (st' := [.ref H.length]) (pc' := pc + 1) rfl, w_x dn1 (hx _)]
  rw [w_put d3 hp (vs := vs) (H' := H ++ (.object C, vs.set j v') :: r) (by simp) hk hj hv' (by simp)]
end
end Jvm.Own
namespace Jvm.Own
open Sem ClassFile Op Lib Jvm.Stand Jvm.Free Jvm.LawKit Jvm.RoadKit
theorem getA_rep (n : Nat) (j : Int32) : getA (List.replicate n 0) j = 0 := by
  simp only [getA, List.getD_eq_getElem?_getD, List.getElem?_replicate]
  split <;> rfl
/-- the array's words as plain ints -/
theorem script_of {s : State} {a : Addr} {c : Cell} (hf : Fit s) (A : Arr s s.heap a c .int) (hl : c.slots.size < 2 ^ 31) : ∃ vs : List Int32, c.slots = (vs.map Value.int).toArray := by
  have h : ∀ v ∈ c.slots.toList, ∃ x : Int32, v = .int x := fun v hv => by
    obtain ⟨i, hi, e⟩ := List.getElem_of_mem hv
    have hi' : i < c.slots.size := by simpa using hi
    have e1 : (Nat.toInt32 i).toNatClampNeg = i := by simp only [Int32.toNatClampNeg, len_toInt (Nat.lt_trans hi' hl)]; rfl
    obtain ⟨w, h1, h2⟩ := elem_fit hf A (idx_in hi' hl)
    rw [e1] at h1
    have : w = v := by rw [Array.getElem?_eq_getElem hi'] at h1; rw [← e]; simpa using (Option.some.inj h1).symm
    subst this
    exact fit_I h2 (by simp)
  have g : ∀ l : List Value, (∀ v ∈ l, ∃ x : Int32, v = .int x) → ∃ vs : List Int32, l = vs.map Value.int := fun l => by
    induction l with
    | nil => exact fun _ => ⟨[], rfl⟩
    | cons v r ih =>
      intro q
      obtain ⟨x, rfl⟩ := q _ (List.mem_cons_self ..)
      obtain ⟨vs, e⟩ := ih fun w hw => q w (List.mem_cons_of_mem _ hw)
      exact ⟨x :: vs, by rw [e]; rfl⟩
  obtain ⟨vs, e⟩ := g _ h
  exact ⟨vs, by rw [← e]⟩
end Jvm.Own
namespace Jvm.Own
open Sem ClassFile Op Lib Jvm.Stand Jvm.Free Jvm.LawKit Jvm.RoadKit
/-! OWN 8: small facts on arrays and ints -/
theorem toNat_eq (j : Int32) : j.toNatClampNeg = j.toInt.toNat := rfl
theorem lt_i {x y : Int32} : x < y ↔ x.toInt < y.toInt := Int32.lt_iff_toInt_lt
theorem inB_iff {α : Type} {j : Int32} {l : List α} : inB j l ↔ 0 ≤ j.toInt ∧ j.toInt < (l.length : Int) := by
  have e0 : (0 : Int32).toInt = 0 := rfl
  unfold inB
  rw [lt_i, toNat_eq, e0]
  omega
theorem inB_lt {α : Type} {j n : Int32} {l : List α} (hl : (l.length : Int) = n.toInt) (h0 : ¬ j < 0) (h1 : j < n) : inB j l := by
  have e0 : (0 : Int32).toInt = 0 := rfl
  rw [inB_iff]
  rw [lt_i] at h0 h1
  rw [e0] at h0
  omega
theorem setA_len {α : Type} (l : List α) (j : Int32) (v : α) : (setA l j v).length = l.length := List.length_set
theorem getA_set {l : List Int32} {i j v : Int32} (h : inB i l) : getA (setA l i v) j = if j.toNatClampNeg = i.toNatClampNeg then v else getA l j := by
  simp only [getA, setA, List.getD_eq_getElem?_getD, List.getElem?_set]
  by_cases e : j.toNatClampNeg = i.toNatClampNeg
  · rw [e]; simp [h.2]
  · simp [e, Ne.symm e]
theorem getA_set2 (l : List Int32) (i j v : Int32) : getA (setA l i v) j = if j.toNatClampNeg = i.toNatClampNeg ∧ i.toNatClampNeg < l.length then v else getA l j := by
  simp only [getA, setA, List.getD_eq_getElem?_getD, List.getElem?_set]
  by_cases e : j.toNatClampNeg = i.toNatClampNeg
  · rw [e]
    by_cases q : i.toNatClampNeg < l.length <;> simp [q]
  · simp [e, Ne.symm e]
theorem len_ou {B A : Nat → List Int32} {j : Nat} {l : List Int32} (h : ∀ i, (A i).length = (B i).length) (hl : l.length = (B j).length) : ∀ i, (ou A j l i).length = (B i).length := fun i => by
  rw [ou_a]
  split
  · rename_i e; rw [e]; exact hl
  · exact h i
end Jvm.Own
namespace Jvm.Own
open Sem ClassFile Op Lib Jvm.Stand Jvm.Free Jvm.LawKit Jvm.RoadKit
/-! OWN 9: a normal form of states; masks and ranges -/
theorem ou_same {α : Type} (s : Nat → α) (i : Nat) (v w : α) : ou (ou s i v) i w = ou s i w := by
  funext j
  simp only [ou_a]
  by_cases h : j = i <;> simp [h]
theorem ou_comm {α : Type} {s : Nat → α} {i j : Nat} {v w : α} (h : j < i) : ou (ou s i v) j w = ou (ou s j w) (i + 0) v := by
  show ou (ou s i v) j w = ou (ou s j w) i v
  funext k
  simp only [ou_a]
  by_cases h1 : k = j
  · have h2 : ¬ k = i := by omega
    simp [h1]
    intro h3; omega
  · simp [h1]
theorem setA_same {α : Type} (l : List α) (i : Int32) (v w : α) : setA (setA l i v) i w = setA l i w := by
  simp only [setA, List.set_set]
theorem clamp_ne {i j : Int32} (h0 : ¬ j < 0) (h : j < i) : j.toNatClampNeg ≠ i.toNatClampNeg := by
  have e0 : (0 : Int32).toInt = 0 := rfl
  rw [lt_i] at *
  rw [toNat_eq, toNat_eq]
  omega
theorem setA_comm {α : Type} {l : List α} {i j : Int32} {v w : α} (h0 : ¬ j < 0) (h : j < i) : setA (setA l i v) j w = setA (setA l j w) (i + 0) v := by
  rw [Int32.add_zero]
  simp only [setA]
  exact List.set_comm _ _ (Ne.symm (clamp_ne h0 h))
theorem lt_irr (x : Int32) : (x < x) = False := by
  apply propext
  rw [lt_i]
  constructor
  · intro h; omega
  · exact False.elim
theorem bit1 (x : Int32) : x &&& 1 = 0 ∨ x &&& 1 = 1 := by
  have h : (x &&& 1).toBitVec.toNat = x.toBitVec.toNat % 2 := by
    rw [Int32.toBitVec_and, BitVec.toNat_and]
    exact Nat.and_one_is_mod _
  rcases Nat.mod_two_eq_zero_or_one x.toBitVec.toNat with e | e
  · exact Or.inl (Int32.toBitVec_inj.mp (BitVec.eq_of_toNat_eq (by rw [h, e]; rfl)))
  · exact Or.inr (Int32.toBitVec_inj.mp (BitVec.eq_of_toNat_eq (by rw [h, e]; rfl)))
theorem and_bd (x m : Int32) (hm : m.toBitVec.toNat < 2147483648) : 0 ≤ (x &&& m).toInt ∧ (x &&& m).toInt ≤ (m.toBitVec.toNat : Int) := by
  have h : (x &&& m).toBitVec.toNat ≤ m.toBitVec.toNat := by
    rw [Int32.toBitVec_and, BitVec.toNat_and]
    exact Nat.and_le_right
  have e : (x &&& m).toInt = ((x &&& m).toBitVec.toNat : Int) := BitVec.toInt_eq_toNat_of_lt (by omega)
  rw [e]
  omega
theorem rng {x : Int32} {n : Nat} (h0 : 0 ≤ x.toInt) (h1 : x.toInt < n) : ∃ k, k < n ∧ x = Int32.ofNat k := by
  have e : (x.toInt.toNat : Int) = x.toInt := Int.toNat_of_nonneg h0
  refine ⟨x.toInt.toNat, by omega, ?_⟩
  have e2 : Int32.ofNat x.toInt.toNat = Int32.ofInt (x.toInt.toNat : Int) := rfl
  rw [e2, e, Int32.ofInt_toInt]
theorem getL_rep (n : Nat) (j : Int32) : getL (List.replicate n 0) j = 0 := by
  simp only [getL, List.getD_eq_getElem?_getD, List.getElem?_replicate]
  split <;> rfl
theorem getL_set2 (l : List Int64) (i j : Int32) (v : Int64) : getL (setA l i v) j = if j.toNatClampNeg = i.toNatClampNeg ∧ i.toNatClampNeg < l.length then v else getL l j := by
  simp only [getL, setA, List.getD_eq_getElem?_getD, List.getElem?_set]
  by_cases e : j.toNatClampNeg = i.toNatClampNeg
  · rw [e]
    by_cases q : i.toNatClampNeg < l.length <;> simp [q]
  · simp [e, Ne.symm e]
theorem add_i {a b : Int32} (h : -2147483648 ≤ a.toInt + b.toInt) (h' : a.toInt + b.toInt < 2147483648) : (a + b).toInt = a.toInt + b.toInt := by
  rw [Int32.toInt_add]
  have e : ((2 ^ 32 : Nat) : Int) = 4294967296 := rfl
  exact Int.bmod_eq_of_le (by rw [e]; omega) (by rw [e]; omega)
theorem sub_i {a b : Int32} (h : -2147483648 ≤ a.toInt - b.toInt) (h' : a.toInt - b.toInt < 2147483648) : (a - b).toInt = a.toInt - b.toInt := by
  rw [Int32.toInt_sub]
  have e : ((2 ^ 32 : Nat) : Int) = 4294967296 := rfl
  exact Int.bmod_eq_of_le (by rw [e]; omega) (by rw [e]; omega)
theorem mul_i {a b : Int32} (h : -2147483648 ≤ a.toInt * b.toInt) (h' : a.toInt * b.toInt < 2147483648) : (a * b).toInt = a.toInt * b.toInt := by
  rw [Int32.toInt_mul]
  have e : ((2 ^ 32 : Nat) : Int) = 4294967296 := rfl
  exact Int.bmod_eq_of_le (by rw [e]; omega) (by rw [e]; omega)
theorem i_0 : (0 : Int32).toInt = 0 := rfl
theorem i_1 : (1 : Int32).toInt = 1 := rfl
theorem add1_i {a : Int32} (h : a.toInt < 2147483647) : (a + 1).toInt = a.toInt + 1 := by
  have := Int32.le_toInt a
  exact add_i (by rw [i_1]; omega) (by rw [i_1]; omega)
theorem nn_i {a : Int32} : ¬ a < 0 ↔ 0 ≤ a.toInt := by rw [lt_i, i_0]; omega
theorem succ_nn {a : Int32} (h0 : ¬ a < 0) (h : a.toInt < 2147483647) : ¬ a + 1 < 0 := by
  rw [nn_i] at *
  rw [add1_i h]
  omega
theorem inB_set {α : Type} {l : List α} {i j : Int32} {v : α} : inB j (setA l i v) = inB j l := by
  simp only [inB, setA_len]
theorem pad_1 (c : FieldType × List Value) : pad 1 [c] = [c] := rfl
def okS (l : Slot) : Prop := l = .unset ∨ ∃ z : Int32, l = .val (.int z)
theorem okS_u : okS .unset := Or.inl rfl
theorem okS_i (z : Int32) : okS (.val (.int z)) := Or.inr ⟨z, rfl⟩
end Jvm.Own
namespace Jvm.Pilot.@@N@@
open Jvm Jvm.ClassFile Sem Op Lib Jvm.Free Jvm.Stand Jvm.LawKit Jvm.RoadKit Bundle Jvm.Own Jvm.Pilot.@@N@@.Jvm.D
/-- frames and words that each method asks -/
def dn : Dn := [(⟨"StreamSigScanner", "<init>", "(I)V"⟩, 1, 12), (⟨"StreamSigScanner", "stat", "(I)I"⟩, 1, 13), (⟨"StreamSigScanner", "openSegment", "(I)I"⟩, 1, 13), (⟨"StreamSigScanner", "flag", "(Z)I"⟩, 0, 0), (⟨"StreamSigScanner", "byteAt", "(I)I"⟩, 1, 13), (⟨"StreamSigScanner", "isOffset", "(I)Z"⟩, 0, 0), (⟨"StreamSigScanner", "matchSig", "(I)I"⟩, 1, 14), (⟨"StreamSigScanner", "validRecord", "(I)Z"⟩, 0, 0), (⟨"StreamSigScanner", "matchEnd", "(I)I"⟩, 1, 14), (⟨"StreamSigScanner", "endSig", "()I"⟩, 0, 0), (⟨"StreamSigScanner", "addSigByte", "(I)I"⟩, 1, 13), (⟨"StreamSigScanner", "isByte", "(I)Z"⟩, 0, 0), (⟨"StreamSigScanner", "compile", "()I"⟩, 2, 32), (⟨"StreamSigScanner", "buildTrie", "()V"⟩, 1, 19), (⟨"StreamSigScanner", "clearAutomaton", "()V"⟩, 0, 0), (⟨"StreamSigScanner", "insertSig", "(I)V"⟩, 0, 0), (⟨"StreamSigScanner", "buildAutomaton", "()V"⟩, 0, 0), (⟨"StreamSigScanner", "segByte", "(I)I"⟩, 1, 13), (⟨"StreamSigScanner", "closeSegment", "()I"⟩, 3, 47), (⟨"StreamSigScanner", "absorbByte", "(III)V"⟩, 1, 13), (⟨"StreamSigScanner", "advanceDelivered", "()V"⟩, 2, 32), (⟨"StreamSigScanner", "feed", "(II)V"⟩, 1, 14), (⟨"StreamSigScanner", "recordMatch", "(II)V"⟩, 0, 0), (⟨"StreamSigScannerL7", "same", "(LStreamSigScanner;LStreamSigScanner;)Z"⟩, 2, 28), (⟨"StreamSigScannerL7", "fill", "(LStreamSigScanner;III)Z"⟩, 2, 26), (⟨"StreamSigScannerL7", "law", "([I)Z"⟩, 4, 61)]
/- scalars: 0=window 1=compiled 2=sigCount 3=endedBytes 4=pendLen 5=nodeCount 6=scanState 7=delivered 8=held 9=conflicts 10=duplicates 11=dropped 12=lastConflict 13=segOpen 14=segStart 15=segLen 16=matchTotal; arrays: 0=sigBytes@1 1=sigStart@2 2=sigLen@3 3=delta@4 4=fail@5 5=outMask@6 6=queue@7 7=present@8 8=stream@9 9=segBuf@10 10=matchSigs@11 11=matchEnds@12; longs: []; long arrays: [] -/
def objv (b : Nat) (s : Nat → Int32) : List Value := [.ref (b + 1), .ref (b + 2), .ref (b + 3), .ref (b + 4), .ref (b + 5), .ref (b + 6), .ref (b + 7), .ref (b + 8), .ref (b + 9), .ref (b + 10), .ref (b + 11), .ref (b + 12), .int (s 0), .int (s 1), .int (s 2), .int (s 3), .int (s 4), .int (s 5), .int (s 6), .int (s 7), .int (s 8), .int (s 9), .int (s 10), .int (s 11), .int (s 12), .int (s 13), .int (s 14), .int (s 15), .int (s 16)]
def put (b : Nat) (pre : AHeap) (s : Nat → Int32) (A : Nat → List Int32) (post : AHeap) : AHeap := pad b pre ++ ((.object "StreamSigScanner", objv b s) :: (.array .int, (A 0).map Value.int) :: (.array .int, (A 1).map Value.int) :: (.array .int, (A 2).map Value.int) :: (.array .int, (A 3).map Value.int) :: (.array .int, (A 4).map Value.int) :: (.array .int, (A 5).map Value.int) :: (.array .int, (A 6).map Value.int) :: (.array .boolean, (A 7).map Value.int) :: (.array .int, (A 8).map Value.int) :: (.array .int, (A 9).map Value.int) :: (.array .int, (A 10).map Value.int) :: (.array .int, (A 11).map Value.int) :: post)
theorem put_o {b : Nat} {pre : AHeap} {s : Nat → Int32} {A : Nat → List Int32} {post : AHeap} : (put b pre s A post)[b]? = some (.object "StreamSigScanner", objv b s) := pad_get0 _ _ _
theorem put_a0 {b : Nat} {pre : AHeap} {s : Nat → Int32} {A : Nat → List Int32} {post : AHeap} : (put b pre s A post)[b + 1]? = some (.array .int, (A 0).map Value.int) := pad_get _ _ _ 1
theorem put_w0 {b : Nat} {pre : AHeap} {s : Nat → Int32} {A : Nat → List Int32} {post : AHeap} {l : List Int32} : (put b pre s A post).set (b + 1) (.array .int, l.map Value.int) = put b pre s (ou A 0 l) post := pad_set _ _ _ 1 _
theorem put_a1 {b : Nat} {pre : AHeap} {s : Nat → Int32} {A : Nat → List Int32} {post : AHeap} : (put b pre s A post)[b + 2]? = some (.array .int, (A 1).map Value.int) := pad_get _ _ _ 2
theorem put_w1 {b : Nat} {pre : AHeap} {s : Nat → Int32} {A : Nat → List Int32} {post : AHeap} {l : List Int32} : (put b pre s A post).set (b + 2) (.array .int, l.map Value.int) = put b pre s (ou A 1 l) post := pad_set _ _ _ 2 _
theorem put_a2 {b : Nat} {pre : AHeap} {s : Nat → Int32} {A : Nat → List Int32} {post : AHeap} : (put b pre s A post)[b + 3]? = some (.array .int, (A 2).map Value.int) := pad_get _ _ _ 3
theorem put_w2 {b : Nat} {pre : AHeap} {s : Nat → Int32} {A : Nat → List Int32} {post : AHeap} {l : List Int32} : (put b pre s A post).set (b + 3) (.array .int, l.map Value.int) = put b pre s (ou A 2 l) post := pad_set _ _ _ 3 _
theorem put_a3 {b : Nat} {pre : AHeap} {s : Nat → Int32} {A : Nat → List Int32} {post : AHeap} : (put b pre s A post)[b + 4]? = some (.array .int, (A 3).map Value.int) := pad_get _ _ _ 4
theorem put_w3 {b : Nat} {pre : AHeap} {s : Nat → Int32} {A : Nat → List Int32} {post : AHeap} {l : List Int32} : (put b pre s A post).set (b + 4) (.array .int, l.map Value.int) = put b pre s (ou A 3 l) post := pad_set _ _ _ 4 _
theorem put_a4 {b : Nat} {pre : AHeap} {s : Nat → Int32} {A : Nat → List Int32} {post : AHeap} : (put b pre s A post)[b + 5]? = some (.array .int, (A 4).map Value.int) := pad_get _ _ _ 5
theorem put_w4 {b : Nat} {pre : AHeap} {s : Nat → Int32} {A : Nat → List Int32} {post : AHeap} {l : List Int32} : (put b pre s A post).set (b + 5) (.array .int, l.map Value.int) = put b pre s (ou A 4 l) post := pad_set _ _ _ 5 _
theorem put_a5 {b : Nat} {pre : AHeap} {s : Nat → Int32} {A : Nat → List Int32} {post : AHeap} : (put b pre s A post)[b + 6]? = some (.array .int, (A 5).map Value.int) := pad_get _ _ _ 6
theorem put_w5 {b : Nat} {pre : AHeap} {s : Nat → Int32} {A : Nat → List Int32} {post : AHeap} {l : List Int32} : (put b pre s A post).set (b + 6) (.array .int, l.map Value.int) = put b pre s (ou A 5 l) post := pad_set _ _ _ 6 _
theorem put_a6 {b : Nat} {pre : AHeap} {s : Nat → Int32} {A : Nat → List Int32} {post : AHeap} : (put b pre s A post)[b + 7]? = some (.array .int, (A 6).map Value.int) := pad_get _ _ _ 7
theorem put_w6 {b : Nat} {pre : AHeap} {s : Nat → Int32} {A : Nat → List Int32} {post : AHeap} {l : List Int32} : (put b pre s A post).set (b + 7) (.array .int, l.map Value.int) = put b pre s (ou A 6 l) post := pad_set _ _ _ 7 _
theorem put_a7 {b : Nat} {pre : AHeap} {s : Nat → Int32} {A : Nat → List Int32} {post : AHeap} : (put b pre s A post)[b + 8]? = some (.array .boolean, (A 7).map Value.int) := pad_get _ _ _ 8
theorem put_w7 {b : Nat} {pre : AHeap} {s : Nat → Int32} {A : Nat → List Int32} {post : AHeap} {l : List Int32} : (put b pre s A post).set (b + 8) (.array .boolean, l.map Value.int) = put b pre s (ou A 7 l) post := pad_set _ _ _ 8 _
theorem put_a8 {b : Nat} {pre : AHeap} {s : Nat → Int32} {A : Nat → List Int32} {post : AHeap} : (put b pre s A post)[b + 9]? = some (.array .int, (A 8).map Value.int) := pad_get _ _ _ 9
theorem put_w8 {b : Nat} {pre : AHeap} {s : Nat → Int32} {A : Nat → List Int32} {post : AHeap} {l : List Int32} : (put b pre s A post).set (b + 9) (.array .int, l.map Value.int) = put b pre s (ou A 8 l) post := pad_set _ _ _ 9 _
theorem put_a9 {b : Nat} {pre : AHeap} {s : Nat → Int32} {A : Nat → List Int32} {post : AHeap} : (put b pre s A post)[b + 10]? = some (.array .int, (A 9).map Value.int) := pad_get _ _ _ 10
theorem put_w9 {b : Nat} {pre : AHeap} {s : Nat → Int32} {A : Nat → List Int32} {post : AHeap} {l : List Int32} : (put b pre s A post).set (b + 10) (.array .int, l.map Value.int) = put b pre s (ou A 9 l) post := pad_set _ _ _ 10 _
theorem put_a10 {b : Nat} {pre : AHeap} {s : Nat → Int32} {A : Nat → List Int32} {post : AHeap} : (put b pre s A post)[b + 11]? = some (.array .int, (A 10).map Value.int) := pad_get _ _ _ 11
theorem put_w10 {b : Nat} {pre : AHeap} {s : Nat → Int32} {A : Nat → List Int32} {post : AHeap} {l : List Int32} : (put b pre s A post).set (b + 11) (.array .int, l.map Value.int) = put b pre s (ou A 10 l) post := pad_set _ _ _ 11 _
theorem put_a11 {b : Nat} {pre : AHeap} {s : Nat → Int32} {A : Nat → List Int32} {post : AHeap} : (put b pre s A post)[b + 12]? = some (.array .int, (A 11).map Value.int) := pad_get _ _ _ 12
theorem put_w11 {b : Nat} {pre : AHeap} {s : Nat → Int32} {A : Nat → List Int32} {post : AHeap} {l : List Int32} : (put b pre s A post).set (b + 12) (.array .int, l.map Value.int) = put b pre s (ou A 11 l) post := pad_set _ _ _ 12 _
theorem put_s0 {b : Nat} {pre : AHeap} {s : Nat → Int32} {A : Nat → List Int32} {post : AHeap} {v : Int32} : (put b pre s A post).set b (.object "StreamSigScanner", (objv b s).set 12 (.int v)) = put b pre (ou s 0 v) A post := pad_set0 _ _ _ _
theorem put_s1 {b : Nat} {pre : AHeap} {s : Nat → Int32} {A : Nat → List Int32} {post : AHeap} {v : Int32} : (put b pre s A post).set b (.object "StreamSigScanner", (objv b s).set 13 (.int v)) = put b pre (ou s 1 v) A post := pad_set0 _ _ _ _
theorem put_s2 {b : Nat} {pre : AHeap} {s : Nat → Int32} {A : Nat → List Int32} {post : AHeap} {v : Int32} : (put b pre s A post).set b (.object "StreamSigScanner", (objv b s).set 14 (.int v)) = put b pre (ou s 2 v) A post := pad_set0 _ _ _ _
theorem put_s3 {b : Nat} {pre : AHeap} {s : Nat → Int32} {A : Nat → List Int32} {post : AHeap} {v : Int32} : (put b pre s A post).set b (.object "StreamSigScanner", (objv b s).set 15 (.int v)) = put b pre (ou s 3 v) A post := pad_set0 _ _ _ _
theorem put_s4 {b : Nat} {pre : AHeap} {s : Nat → Int32} {A : Nat → List Int32} {post : AHeap} {v : Int32} : (put b pre s A post).set b (.object "StreamSigScanner", (objv b s).set 16 (.int v)) = put b pre (ou s 4 v) A post := pad_set0 _ _ _ _
theorem put_s5 {b : Nat} {pre : AHeap} {s : Nat → Int32} {A : Nat → List Int32} {post : AHeap} {v : Int32} : (put b pre s A post).set b (.object "StreamSigScanner", (objv b s).set 17 (.int v)) = put b pre (ou s 5 v) A post := pad_set0 _ _ _ _
theorem put_s6 {b : Nat} {pre : AHeap} {s : Nat → Int32} {A : Nat → List Int32} {post : AHeap} {v : Int32} : (put b pre s A post).set b (.object "StreamSigScanner", (objv b s).set 18 (.int v)) = put b pre (ou s 6 v) A post := pad_set0 _ _ _ _
theorem put_s7 {b : Nat} {pre : AHeap} {s : Nat → Int32} {A : Nat → List Int32} {post : AHeap} {v : Int32} : (put b pre s A post).set b (.object "StreamSigScanner", (objv b s).set 19 (.int v)) = put b pre (ou s 7 v) A post := pad_set0 _ _ _ _
theorem put_s8 {b : Nat} {pre : AHeap} {s : Nat → Int32} {A : Nat → List Int32} {post : AHeap} {v : Int32} : (put b pre s A post).set b (.object "StreamSigScanner", (objv b s).set 20 (.int v)) = put b pre (ou s 8 v) A post := pad_set0 _ _ _ _
theorem put_s9 {b : Nat} {pre : AHeap} {s : Nat → Int32} {A : Nat → List Int32} {post : AHeap} {v : Int32} : (put b pre s A post).set b (.object "StreamSigScanner", (objv b s).set 21 (.int v)) = put b pre (ou s 9 v) A post := pad_set0 _ _ _ _
theorem put_s10 {b : Nat} {pre : AHeap} {s : Nat → Int32} {A : Nat → List Int32} {post : AHeap} {v : Int32} : (put b pre s A post).set b (.object "StreamSigScanner", (objv b s).set 22 (.int v)) = put b pre (ou s 10 v) A post := pad_set0 _ _ _ _
theorem put_s11 {b : Nat} {pre : AHeap} {s : Nat → Int32} {A : Nat → List Int32} {post : AHeap} {v : Int32} : (put b pre s A post).set b (.object "StreamSigScanner", (objv b s).set 23 (.int v)) = put b pre (ou s 11 v) A post := pad_set0 _ _ _ _
theorem put_s12 {b : Nat} {pre : AHeap} {s : Nat → Int32} {A : Nat → List Int32} {post : AHeap} {v : Int32} : (put b pre s A post).set b (.object "StreamSigScanner", (objv b s).set 24 (.int v)) = put b pre (ou s 12 v) A post := pad_set0 _ _ _ _
theorem put_s13 {b : Nat} {pre : AHeap} {s : Nat → Int32} {A : Nat → List Int32} {post : AHeap} {v : Int32} : (put b pre s A post).set b (.object "StreamSigScanner", (objv b s).set 25 (.int v)) = put b pre (ou s 13 v) A post := pad_set0 _ _ _ _
theorem put_s14 {b : Nat} {pre : AHeap} {s : Nat → Int32} {A : Nat → List Int32} {post : AHeap} {v : Int32} : (put b pre s A post).set b (.object "StreamSigScanner", (objv b s).set 26 (.int v)) = put b pre (ou s 14 v) A post := pad_set0 _ _ _ _
theorem put_s15 {b : Nat} {pre : AHeap} {s : Nat → Int32} {A : Nat → List Int32} {post : AHeap} {v : Int32} : (put b pre s A post).set b (.object "StreamSigScanner", (objv b s).set 27 (.int v)) = put b pre (ou s 15 v) A post := pad_set0 _ _ _ _
theorem put_s16 {b : Nat} {pre : AHeap} {s : Nat → Int32} {A : Nat → List Int32} {post : AHeap} {v : Int32} : (put b pre s A post).set b (.object "StreamSigScanner", (objv b s).set 28 (.int v)) = put b pre (ou s 16 v) A post := pad_set0 _ _ _ _
theorem put_len {b : Nat} {pre : AHeap} {s : Nat → Int32} {A : Nat → List Int32} {post : AHeap} : (put b pre s A post).length = b + 13 + post.length := by rw [put, List.length_append, pad_len]; simp only [List.length_cons]; omega
theorem inst0 : rInst tables_1 "StreamSigScanner" = some 29 := by decide +kernel
theorem put_tot {b : Nat} {pre : AHeap} {s : Nat → Int32} {A : Nat → List Int32} {post : AHeap} : tot tables_1 (put b pre s A post) = tot tables_1 (pad b pre) + (29 + ((A 0).length + ((A 1).length + ((A 2).length + ((A 3).length + ((A 4).length + ((A 5).length + ((A 6).length + ((A 7).length + ((A 8).length + ((A 9).length + ((A 10).length + ((A 11).length + tot tables_1 post))))))))))))) := by rw [put, tot_append]; simp only [tot_cons, cost, List.length_map, inst0, Option.getD_some]
def D0 : List Value := [.null, .null, .null, .null, .null, .null, .null, .null, .null, .null, .null, .null, .int 0, .int 0, .int 0, .int 0, .int 0, .int 0, .int 0, .int 0, .int 0, .int 0, .int 0, .int 0, .int 0, .int 0, .int 0, .int 0, .int 0]
theorem lay0 : (olay tables_1 "StreamSigScanner").map dflt = D0 := by decide +kernel
abbrev y0 : MethodName := ⟨"StreamSigScanner", "<init>", "(I)V"⟩
abbrev kb0 : ByteArray := prog_1_method_1_code
def M0 (pc : Nat) (ls : List Slot) (st : List Value) (H : AHeap) (Q : Option Value → AHeap → Prop) : Prop := W tables_1 dn 1 y0 prog_1_method_1_code none pc ls st H Q
abbrev y1 : MethodName := ⟨"StreamSigScanner", "stat", "(I)I"⟩
abbrev kb1 : ByteArray := prog_1_method_16_code
def M1 (pc : Nat) (ls : List Slot) (st : List Value) (H : AHeap) (Q : Option Value → AHeap → Prop) : Prop := W tables_1 dn 1 y1 prog_1_method_16_code (some .int) pc ls st H Q
abbrev y2 : MethodName := ⟨"StreamSigScanner", "openSegment", "(I)I"⟩
abbrev kb2 : ByteArray := prog_1_method_9_code
def M2 (pc : Nat) (ls : List Slot) (st : List Value) (H : AHeap) (Q : Option Value → AHeap → Prop) : Prop := W tables_1 dn 1 y2 prog_1_method_9_code (some .int) pc ls st H Q
abbrev y3 : MethodName := ⟨"StreamSigScanner", "flag", "(Z)I"⟩
abbrev kb3 : ByteArray := prog_1_method_26_code
def M3 (pc : Nat) (ls : List Slot) (st : List Value) (H : AHeap) (Q : Option Value → AHeap → Prop) : Prop := W tables_1 dn 1 y3 prog_1_method_26_code (some .int) pc ls st H Q
abbrev y4 : MethodName := ⟨"StreamSigScanner", "byteAt", "(I)I"⟩
abbrev kb4 : ByteArray := prog_1_method_17_code
def M4 (pc : Nat) (ls : List Slot) (st : List Value) (H : AHeap) (Q : Option Value → AHeap → Prop) : Prop := W tables_1 dn 1 y4 prog_1_method_17_code (some .int) pc ls st H Q
abbrev y5 : MethodName := ⟨"StreamSigScanner", "isOffset", "(I)Z"⟩
abbrev kb5 : ByteArray := prog_1_method_23_code
def M5 (pc : Nat) (ls : List Slot) (st : List Value) (H : AHeap) (Q : Option Value → AHeap → Prop) : Prop := W tables_1 dn 1 y5 prog_1_method_23_code (some .boolean) pc ls st H Q
abbrev y6 : MethodName := ⟨"StreamSigScanner", "matchSig", "(I)I"⟩
abbrev kb6 : ByteArray := prog_1_method_20_code
def M6 (pc : Nat) (ls : List Slot) (st : List Value) (H : AHeap) (Q : Option Value → AHeap → Prop) : Prop := W tables_1 dn 1 y6 prog_1_method_20_code (some .int) pc ls st H Q
abbrev y7 : MethodName := ⟨"StreamSigScanner", "validRecord", "(I)Z"⟩
abbrev kb7 : ByteArray := prog_1_method_25_code
def M7 (pc : Nat) (ls : List Slot) (st : List Value) (H : AHeap) (Q : Option Value → AHeap → Prop) : Prop := W tables_1 dn 1 y7 prog_1_method_25_code (some .boolean) pc ls st H Q
abbrev y8 : MethodName := ⟨"StreamSigScanner", "matchEnd", "(I)I"⟩
abbrev kb8 : ByteArray := prog_1_method_21_code
def M8 (pc : Nat) (ls : List Slot) (st : List Value) (H : AHeap) (Q : Option Value → AHeap → Prop) : Prop := W tables_1 dn 1 y8 prog_1_method_21_code (some .int) pc ls st H Q
abbrev y9 : MethodName := ⟨"StreamSigScanner", "endSig", "()I"⟩
abbrev kb9 : ByteArray := prog_1_method_3_code
def M9 (pc : Nat) (ls : List Slot) (st : List Value) (H : AHeap) (Q : Option Value → AHeap → Prop) : Prop := W tables_1 dn 1 y9 prog_1_method_3_code (some .int) pc ls st H Q
abbrev y10 : MethodName := ⟨"StreamSigScanner", "addSigByte", "(I)I"⟩
abbrev kb10 : ByteArray := prog_1_method_2_code
def M10 (pc : Nat) (ls : List Slot) (st : List Value) (H : AHeap) (Q : Option Value → AHeap → Prop) : Prop := W tables_1 dn 1 y10 prog_1_method_2_code (some .int) pc ls st H Q
abbrev y11 : MethodName := ⟨"StreamSigScanner", "isByte", "(I)Z"⟩
abbrev kb11 : ByteArray := prog_1_method_22_code
def M11 (pc : Nat) (ls : List Slot) (st : List Value) (H : AHeap) (Q : Option Value → AHeap → Prop) : Prop := W tables_1 dn 1 y11 prog_1_method_22_code (some .boolean) pc ls st H Q
abbrev y12 : MethodName := ⟨"StreamSigScanner", "compile", "()I"⟩
abbrev kb12 : ByteArray := prog_1_method_4_code
def M12 (pc : Nat) (ls : List Slot) (st : List Value) (H : AHeap) (Q : Option Value → AHeap → Prop) : Prop := W tables_1 dn 1 y12 prog_1_method_4_code (some .int) pc ls st H Q
abbrev y13 : MethodName := ⟨"StreamSigScanner", "buildTrie", "()V"⟩
abbrev kb13 : ByteArray := prog_1_method_5_code
def M13 (pc : Nat) (ls : List Slot) (st : List Value) (H : AHeap) (Q : Option Value → AHeap → Prop) : Prop := W tables_1 dn 1 y13 prog_1_method_5_code none pc ls st H Q
abbrev y14 : MethodName := ⟨"StreamSigScanner", "clearAutomaton", "()V"⟩
abbrev kb14 : ByteArray := prog_1_method_6_code
def M14 (pc : Nat) (ls : List Slot) (st : List Value) (H : AHeap) (Q : Option Value → AHeap → Prop) : Prop := W tables_1 dn 1 y14 prog_1_method_6_code none pc ls st H Q
abbrev y15 : MethodName := ⟨"StreamSigScanner", "insertSig", "(I)V"⟩
abbrev kb15 : ByteArray := prog_1_method_7_code
def M15 (pc : Nat) (ls : List Slot) (st : List Value) (H : AHeap) (Q : Option Value → AHeap → Prop) : Prop := W tables_1 dn 1 y15 prog_1_method_7_code none pc ls st H Q
abbrev y16 : MethodName := ⟨"StreamSigScanner", "buildAutomaton", "()V"⟩
abbrev kb16 : ByteArray := prog_1_method_8_code
def M16 (pc : Nat) (ls : List Slot) (st : List Value) (H : AHeap) (Q : Option Value → AHeap → Prop) : Prop := W tables_1 dn 1 y16 prog_1_method_8_code none pc ls st H Q
abbrev y17 : MethodName := ⟨"StreamSigScanner", "segByte", "(I)I"⟩
abbrev kb17 : ByteArray := prog_1_method_10_code
def M17 (pc : Nat) (ls : List Slot) (st : List Value) (H : AHeap) (Q : Option Value → AHeap → Prop) : Prop := W tables_1 dn 1 y17 prog_1_method_10_code (some .int) pc ls st H Q
abbrev y18 : MethodName := ⟨"StreamSigScanner", "closeSegment", "()I"⟩
abbrev kb18 : ByteArray := prog_1_method_11_code
def M18 (pc : Nat) (ls : List Slot) (st : List Value) (H : AHeap) (Q : Option Value → AHeap → Prop) : Prop := W tables_1 dn 1 y18 prog_1_method_11_code (some .int) pc ls st H Q
abbrev y19 : MethodName := ⟨"StreamSigScanner", "absorbByte", "(III)V"⟩
abbrev kb19 : ByteArray := prog_1_method_12_code
def M19 (pc : Nat) (ls : List Slot) (st : List Value) (H : AHeap) (Q : Option Value → AHeap → Prop) : Prop := W tables_1 dn 1 y19 prog_1_method_12_code none pc ls st H Q
abbrev y20 : MethodName := ⟨"StreamSigScanner", "advanceDelivered", "()V"⟩
abbrev kb20 : ByteArray := prog_1_method_13_code
def M20 (pc : Nat) (ls : List Slot) (st : List Value) (H : AHeap) (Q : Option Value → AHeap → Prop) : Prop := W tables_1 dn 1 y20 prog_1_method_13_code none pc ls st H Q
abbrev y21 : MethodName := ⟨"StreamSigScanner", "feed", "(II)V"⟩
abbrev kb21 : ByteArray := prog_1_method_14_code
def M21 (pc : Nat) (ls : List Slot) (st : List Value) (H : AHeap) (Q : Option Value → AHeap → Prop) : Prop := W tables_1 dn 1 y21 prog_1_method_14_code none pc ls st H Q
abbrev y22 : MethodName := ⟨"StreamSigScanner", "recordMatch", "(II)V"⟩
abbrev kb22 : ByteArray := prog_1_method_15_code
def M22 (pc : Nat) (ls : List Slot) (st : List Value) (H : AHeap) (Q : Option Value → AHeap → Prop) : Prop := W tables_1 dn 1 y22 prog_1_method_15_code none pc ls st H Q
abbrev y23 : MethodName := ⟨"StreamSigScannerL7", "same", "(LStreamSigScanner;LStreamSigScanner;)Z"⟩
abbrev kb23 : ByteArray := method_2_code
def M23 (pc : Nat) (ls : List Slot) (st : List Value) (H : AHeap) (Q : Option Value → AHeap → Prop) : Prop := W tables_1 dn 1 y23 method_2_code (some .boolean) pc ls st H Q
abbrev y24 : MethodName := ⟨"StreamSigScannerL7", "fill", "(LStreamSigScanner;III)Z"⟩
abbrev kb24 : ByteArray := method_3_code
def M24 (pc : Nat) (ls : List Slot) (st : List Value) (H : AHeap) (Q : Option Value → AHeap → Prop) : Prop := W tables_1 dn 1 y24 method_3_code (some .boolean) pc ls st H Q
abbrev y25 : MethodName := ⟨"StreamSigScannerL7", "law", "([I)Z"⟩
abbrev kb25 : ByteArray := code
def M25 (pc : Nat) (ls : List Slot) (st : List Value) (H : AHeap) (Q : Option Value → AHeap → Prop) : Prop := W tables_1 dn 1 y25 code (some .boolean) pc ls st H Q
theorem dn_0 : dnOf dn y0 = some (1, 12) := by decide +kernel
theorem rc_0 : rCode tables_1 y0 = some (prog_1_method_1_code, 3, none) := rCode_of (i := 5) rfl (by decide +kernel)
theorem dn_1 : dnOf dn y1 = some (1, 13) := by decide +kernel
theorem rc_1 : rCode tables_1 y1 = some (prog_1_method_16_code, 2, some .int) := rCode_of (i := 73) rfl (by decide +kernel)
theorem dn_2 : dnOf dn y2 = some (1, 13) := by decide +kernel
theorem rc_2 : rCode tables_1 y2 = some (prog_1_method_9_code, 2, some .int) := rCode_of (i := 78) rfl (by decide +kernel)
theorem dn_3 : dnOf dn y3 = some (0, 0) := by decide +kernel
theorem rc_3 : rCode tables_1 y3 = some (prog_1_method_26_code, 2, some .int) := rCode_of (i := 86) rfl (by decide +kernel)
theorem dn_4 : dnOf dn y4 = some (1, 13) := by decide +kernel
theorem rc_4 : rCode tables_1 y4 = some (prog_1_method_17_code, 2, some .int) := rCode_of (i := 91) rfl (by decide +kernel)
theorem dn_5 : dnOf dn y5 = some (0, 0) := by decide +kernel
theorem rc_5 : rCode tables_1 y5 = some (prog_1_method_23_code, 2, some .boolean) := rCode_of (i := 95) rfl (by decide +kernel)
theorem dn_6 : dnOf dn y6 = some (1, 14) := by decide +kernel
theorem rc_6 : rCode tables_1 y6 = some (prog_1_method_20_code, 2, some .int) := rCode_of (i := 100) rfl (by decide +kernel)
theorem dn_7 : dnOf dn y7 = some (0, 0) := by decide +kernel
theorem rc_7 : rCode tables_1 y7 = some (prog_1_method_25_code, 3, some .boolean) := rCode_of (i := 104) rfl (by decide +kernel)
theorem dn_8 : dnOf dn y8 = some (1, 14) := by decide +kernel
theorem rc_8 : rCode tables_1 y8 = some (prog_1_method_21_code, 2, some .int) := rCode_of (i := 109) rfl (by decide +kernel)
theorem dn_9 : dnOf dn y9 = some (0, 0) := by decide +kernel
theorem rc_9 : rCode tables_1 y9 = some (prog_1_method_3_code, 2, some .int) := rCode_of (i := 114) rfl (by decide +kernel)
theorem dn_10 : dnOf dn y10 = some (1, 13) := by decide +kernel
theorem rc_10 : rCode tables_1 y10 = some (prog_1_method_2_code, 3, some .int) := rCode_of (i := 119) rfl (by decide +kernel)
theorem dn_11 : dnOf dn y11 = some (0, 0) := by decide +kernel
theorem rc_11 : rCode tables_1 y11 = some (prog_1_method_22_code, 2, some .boolean) := rCode_of (i := 123) rfl (by decide +kernel)
theorem dn_12 : dnOf dn y12 = some (2, 32) := by decide +kernel
theorem rc_12 : rCode tables_1 y12 = some (prog_1_method_4_code, 1, some .int) := rCode_of (i := 128) rfl (by decide +kernel)
theorem dn_13 : dnOf dn y13 = some (1, 19) := by decide +kernel
theorem rc_13 : rCode tables_1 y13 = some (prog_1_method_5_code, 2, none) := rCode_of (i := 132) rfl (by decide +kernel)
theorem dn_14 : dnOf dn y14 = some (0, 0) := by decide +kernel
theorem rc_14 : rCode tables_1 y14 = some (prog_1_method_6_code, 2, none) := rCode_of (i := 136) rfl (by decide +kernel)
theorem dn_15 : dnOf dn y15 = some (0, 0) := by decide +kernel
theorem rc_15 : rCode tables_1 y15 = some (prog_1_method_7_code, 8, none) := rCode_of (i := 140) rfl (by decide +kernel)
theorem dn_16 : dnOf dn y16 = some (0, 0) := by decide +kernel
theorem rc_16 : rCode tables_1 y16 = some (prog_1_method_8_code, 9, none) := rCode_of (i := 144) rfl (by decide +kernel)
theorem dn_17 : dnOf dn y17 = some (1, 13) := by decide +kernel
theorem rc_17 : rCode tables_1 y17 = some (prog_1_method_10_code, 2, some .int) := rCode_of (i := 152) rfl (by decide +kernel)
theorem dn_18 : dnOf dn y18 = some (3, 47) := by decide +kernel
theorem rc_18 : rCode tables_1 y18 = some (prog_1_method_11_code, 3, some .int) := rCode_of (i := 157) rfl (by decide +kernel)
theorem dn_19 : dnOf dn y19 = some (1, 13) := by decide +kernel
theorem rc_19 : rCode tables_1 y19 = some (prog_1_method_12_code, 4, none) := rCode_of (i := 161) rfl (by decide +kernel)
theorem dn_20 : dnOf dn y20 = some (2, 32) := by decide +kernel
theorem rc_20 : rCode tables_1 y20 = some (prog_1_method_13_code, 4, none) := rCode_of (i := 165) rfl (by decide +kernel)
theorem dn_21 : dnOf dn y21 = some (1, 14) := by decide +kernel
theorem rc_21 : rCode tables_1 y21 = some (prog_1_method_14_code, 7, none) := rCode_of (i := 169) rfl (by decide +kernel)
theorem dn_22 : dnOf dn y22 = some (0, 0) := by decide +kernel
theorem rc_22 : rCode tables_1 y22 = some (prog_1_method_15_code, 3, none) := rCode_of (i := 173) rfl (by decide +kernel)
theorem dn_23 : dnOf dn y23 = some (2, 28) := by decide +kernel
theorem rc_23 : rCode tables_1 y23 = some (method_2_code, 3, some .boolean) := rCode_of (i := 82) rfl (by decide +kernel)
theorem dn_24 : dnOf dn y24 = some (2, 26) := by decide +kernel
theorem rc_24 : rCode tables_1 y24 = some (method_3_code, 6, some .boolean) := rCode_of (i := 147) rfl (by decide +kernel)
theorem dn_25 : dnOf dn y25 = some (4, 61) := by decide +kernel
theorem gf_7 : gfR tables_1 "StreamSigScanner" 7 = some ("StreamSigScanner", 0) := by decide +kernel
theorem gf_13 : gfR tables_1 "StreamSigScanner" 13 = some ("StreamSigScanner", 1) := by decide +kernel
theorem gf_16 : gfR tables_1 "StreamSigScanner" 16 = some ("StreamSigScanner", 2) := by decide +kernel
theorem gf_19 : gfR tables_1 "StreamSigScanner" 19 = some ("StreamSigScanner", 3) := by decide +kernel
theorem gf_22 : gfR tables_1 "StreamSigScanner" 22 = some ("StreamSigScanner", 4) := by decide +kernel
theorem gf_25 : gfR tables_1 "StreamSigScanner" 25 = some ("StreamSigScanner", 5) := by decide +kernel
theorem gf_28 : gfR tables_1 "StreamSigScanner" 28 = some ("StreamSigScanner", 6) := by decide +kernel
theorem gf_31 : gfR tables_1 "StreamSigScanner" 31 = some ("StreamSigScanner", 7) := by decide +kernel
theorem gf_35 : gfR tables_1 "StreamSigScanner" 35 = some ("StreamSigScanner", 8) := by decide +kernel
theorem gf_38 : gfR tables_1 "StreamSigScanner" 38 = some ("StreamSigScanner", 9) := by decide +kernel
theorem gf_41 : gfR tables_1 "StreamSigScanner" 41 = some ("StreamSigScanner", 10) := by decide +kernel
theorem gf_44 : gfR tables_1 "StreamSigScanner" 44 = some ("StreamSigScanner", 11) := by decide +kernel
theorem gf_47 : gfR tables_1 "StreamSigScanner" 47 = some ("StreamSigScanner", 12) := by decide +kernel
theorem gf_51 : gfR tables_1 "StreamSigScanner" 51 = some ("StreamSigScanner", 13) := by decide +kernel
theorem gf_55 : gfR tables_1 "StreamSigScanner" 55 = some ("StreamSigScanner", 14) := by decide +kernel
theorem gf_58 : gfR tables_1 "StreamSigScanner" 58 = some ("StreamSigScanner", 15) := by decide +kernel
theorem gf_61 : gfR tables_1 "StreamSigScanner" 61 = some ("StreamSigScanner", 16) := by decide +kernel
theorem gf_64 : gfR tables_1 "StreamSigScanner" 64 = some ("StreamSigScanner", 17) := by decide +kernel
theorem gf_67 : gfR tables_1 "StreamSigScanner" 67 = some ("StreamSigScanner", 18) := by decide +kernel
theorem gf_70 : gfR tables_1 "StreamSigScanner" 70 = some ("StreamSigScanner", 19) := by decide +kernel
theorem gf_73 : gfR tables_1 "StreamSigScanner" 73 = some ("StreamSigScanner", 20) := by decide +kernel
theorem gf_76 : gfR tables_1 "StreamSigScanner" 76 = some ("StreamSigScanner", 21) := by decide +kernel
theorem gf_79 : gfR tables_1 "StreamSigScanner" 79 = some ("StreamSigScanner", 22) := by decide +kernel
theorem gf_82 : gfR tables_1 "StreamSigScanner" 82 = some ("StreamSigScanner", 23) := by decide +kernel
theorem gf_85 : gfR tables_1 "StreamSigScanner" 85 = some ("StreamSigScanner", 24) := by decide +kernel
theorem gf_88 : gfR tables_1 "StreamSigScanner" 88 = some ("StreamSigScanner", 25) := by decide +kernel
theorem gf_91 : gfR tables_1 "StreamSigScanner" 91 = some ("StreamSigScanner", 26) := by decide +kernel
theorem gf_94 : gfR tables_1 "StreamSigScanner" 94 = some ("StreamSigScanner", 27) := by decide +kernel
theorem gf_97 : gfR tables_1 "StreamSigScanner" 97 = some ("StreamSigScanner", 28) := by decide +kernel
section Rules
variable {b r q : Nat} {pre : AHeap} {s : Nat → Int32} {A : Nat → List Int32} {post : AHeap} {ls : List Slot} {st : List Value} {H R : AHeap} {Q : Option Value → AHeap → Prop} {x y v z j : Int32} {J1 J2 : Int64} {sc : List Int32} {l0 l1 l2 l3 l4 l5 l6 l7 l8 l9 l10 l11 l12 l13 l14 l15 l16 l17 : Slot}
theorem m0_0 : M0 0 [.val (.ref r), l1, l2] st H Q = M0 1 [.val (.ref r), l1, l2] (.ref r :: st) H Q := w_x (show decode kb0 0 = .ok (.aload_n 0, 1) from by decide +kernel) rfl
theorem m0_1 : M0 1 ls [.ref r] H Q = M0 4 ls [] H Q := w_obj (show decode kb0 1 = .ok (.invokespecial 1, 3) from by decide +kernel) (sl := 0) (by decide +kernel) (by decide)
theorem m0_4 : M0 4 [.val (.ref r), l1, l2] st H Q = M0 5 [.val (.ref r), l1, l2] (.ref r :: st) H Q := w_x (show decode kb0 4 = .ok (.aload_n 0, 1) from by decide +kernel) rfl
theorem m0_5 : M0 5 ls st H Q = M0 7 ls (.int 64 :: st) H Q := w_con (show decode kb0 5 = .ok (.bipush 64, 2) from by decide +kernel) rfl (by decide)
theorem m0_12 : M0 12 [.val (.ref r), l1, l2] st H Q = M0 13 [.val (.ref r), l1, l2] (.ref r :: st) H Q := w_x (show decode kb0 12 = .ok (.aload_n 0, 1) from by decide +kernel) rfl
theorem m0_13 : M0 13 ls st H Q = M0 15 ls (.int 16 :: st) H Q := w_con (show decode kb0 13 = .ok (.bipush 16, 2) from by decide +kernel) rfl (by decide)
theorem m0_20 : M0 20 [.val (.ref r), l1, l2] st H Q = M0 21 [.val (.ref r), l1, l2] (.ref r :: st) H Q := w_x (show decode kb0 20 = .ok (.aload_n 0, 1) from by decide +kernel) rfl
theorem m0_21 : M0 21 ls st H Q = M0 23 ls (.int 16 :: st) H Q := w_con (show decode kb0 21 = .ok (.bipush 16, 2) from by decide +kernel) rfl (by decide)
theorem m0_28 : M0 28 [.val (.ref r), l1, l2] st H Q = M0 29 [.val (.ref r), l1, l2] (.ref r :: st) H Q := w_x (show decode kb0 28 = .ok (.aload_n 0, 1) from by decide +kernel) rfl
theorem m0_29 : M0 29 ls st H Q = M0 32 ls (.int 16640 :: st) H Q := w_con (show decode kb0 29 = .ok (.sipush 16640, 3) from by decide +kernel) rfl (by decide)
theorem m0_37 : M0 37 [.val (.ref r), l1, l2] st H Q = M0 38 [.val (.ref r), l1, l2] (.ref r :: st) H Q := w_x (show decode kb0 37 = .ok (.aload_n 0, 1) from by decide +kernel) rfl
theorem m0_38 : M0 38 ls st H Q = M0 40 ls (.int 65 :: st) H Q := w_con (show decode kb0 38 = .ok (.bipush 65, 2) from by decide +kernel) rfl (by decide)
theorem m0_45 : M0 45 [.val (.ref r), l1, l2] st H Q = M0 46 [.val (.ref r), l1, l2] (.ref r :: st) H Q := w_x (show decode kb0 45 = .ok (.aload_n 0, 1) from by decide +kernel) rfl
theorem m0_46 : M0 46 ls st H Q = M0 48 ls (.int 65 :: st) H Q := w_con (show decode kb0 46 = .ok (.bipush 65, 2) from by decide +kernel) rfl (by decide)
theorem m0_53 : M0 53 [.val (.ref r), l1, l2] st H Q = M0 54 [.val (.ref r), l1, l2] (.ref r :: st) H Q := w_x (show decode kb0 53 = .ok (.aload_n 0, 1) from by decide +kernel) rfl
theorem m0_54 : M0 54 ls st H Q = M0 56 ls (.int 65 :: st) H Q := w_con (show decode kb0 54 = .ok (.bipush 65, 2) from by decide +kernel) rfl (by decide)
theorem m0_61 : M0 61 [.val (.ref r), l1, l2] st H Q = M0 62 [.val (.ref r), l1, l2] (.ref r :: st) H Q := w_x (show decode kb0 61 = .ok (.aload_n 0, 1) from by decide +kernel) rfl
theorem m0_62 : M0 62 ls st H Q = M0 65 ls (.int 256 :: st) H Q := w_con (show decode kb0 62 = .ok (.sipush 256, 3) from by decide +kernel) rfl (by decide)
theorem m0_70 : M0 70 [.val (.ref r), l1, l2] st H Q = M0 71 [.val (.ref r), l1, l2] (.ref r :: st) H Q := w_x (show decode kb0 70 = .ok (.aload_n 0, 1) from by decide +kernel) rfl
theorem m0_71 : M0 71 ls st H Q = M0 74 ls (.int 256 :: st) H Q := w_con (show decode kb0 71 = .ok (.sipush 256, 3) from by decide +kernel) rfl (by decide)
theorem m0_79 : M0 79 [.val (.ref r), l1, l2] st H Q = M0 80 [.val (.ref r), l1, l2] (.ref r :: st) H Q := w_x (show decode kb0 79 = .ok (.aload_n 0, 1) from by decide +kernel) rfl
theorem m0_80 : M0 80 ls st H Q = M0 82 ls (.int 16 :: st) H Q := w_con (show decode kb0 80 = .ok (.bipush 16, 2) from by decide +kernel) rfl (by decide)
theorem m0_87 : M0 87 [.val (.ref r), l1, l2] st H Q = M0 88 [.val (.ref r), l1, l2] (.ref r :: st) H Q := w_x (show decode kb0 87 = .ok (.aload_n 0, 1) from by decide +kernel) rfl
theorem m0_88 : M0 88 ls st H Q = M0 90 ls (.int 64 :: st) H Q := w_con (show decode kb0 88 = .ok (.bipush 64, 2) from by decide +kernel) rfl (by decide)
theorem m0_95 : M0 95 [.val (.ref r), l1, l2] st H Q = M0 96 [.val (.ref r), l1, l2] (.ref r :: st) H Q := w_x (show decode kb0 95 = .ok (.aload_n 0, 1) from by decide +kernel) rfl
theorem m0_96 : M0 96 ls st H Q = M0 98 ls (.int 64 :: st) H Q := w_con (show decode kb0 96 = .ok (.bipush 64, 2) from by decide +kernel) rfl (by decide)
theorem m0_103 : M0 103 [l0, .val (.int v), l2] st H Q = M0 104 [l0, .val (.int v), l2] (.int v :: st) H Q := w_x (show decode kb0 103 = .ok (.iload_n 1, 1) from by decide +kernel) rfl
theorem m0_104u : M0 104 [l0, l1, .unset] ((.int v) :: st) H Q = M0 105 [l0, l1, .val (.int v)] st H Q := w_st (i := 2) (p := isI) (show decode kb0 104 = .ok (.istore_n 2, 1) from by decide +kernel) rfl rfl rfl rfl rfl rfl
theorem m0_105 : M0 105 [l0, l1, .val (.int v)] st H Q = M0 106 [l0, l1, .val (.int v)] (.int v :: st) H Q := w_x (show decode kb0 105 = .ok (.iload_n 2, 1) from by decide +kernel) rfl
theorem m0_106 : M0 106 ls st H Q = M0 108 ls (.int 8 :: st) H Q := w_con (show decode kb0 106 = .ok (.bipush 8, 2) from by decide +kernel) rfl (by decide)
theorem m0_108 : M0 108 ls (.int y :: .int x :: st) H Q = if x < y then M0 111 ls st H Q else M0 114 ls st H Q := w_icmpN (show decode kb0 108 = .ok (.if_icmp .ge 6, 3) from by decide +kernel) (i_ge x y) rfl
theorem m0_111 : M0 111 ls st H Q = M0 113 ls (.int 8 :: st) H Q := w_con (show decode kb0 111 = .ok (.bipush 8, 2) from by decide +kernel) rfl (by decide)
theorem m0_113i : M0 113 [l0, l1, .val (.int z)] ((.int v) :: st) H Q = M0 114 [l0, l1, .val (.int v)] st H Q := w_st (i := 2) (p := isI) (show decode kb0 113 = .ok (.istore_n 2, 1) from by decide +kernel) rfl rfl rfl rfl rfl rfl
theorem m0_114 : M0 114 [l0, l1, .val (.int v)] st H Q = M0 115 [l0, l1, .val (.int v)] (.int v :: st) H Q := w_x (show decode kb0 114 = .ok (.iload_n 2, 1) from by decide +kernel) rfl
theorem m0_115 : M0 115 ls st H Q = M0 117 ls (.int 64 :: st) H Q := w_con (show decode kb0 115 = .ok (.bipush 64, 2) from by decide +kernel) rfl (by decide)
theorem m0_117 : M0 117 ls (.int y :: .int x :: st) H Q = if y < x then M0 120 ls st H Q else M0 123 ls st H Q := w_icmpN (show decode kb0 117 = .ok (.if_icmp .le 6, 3) from by decide +kernel) (i_le x y) rfl
theorem m0_120 : M0 120 ls st H Q = M0 122 ls (.int 64 :: st) H Q := w_con (show decode kb0 120 = .ok (.bipush 64, 2) from by decide +kernel) rfl (by decide)
theorem m0_122i : M0 122 [l0, l1, .val (.int z)] ((.int v) :: st) H Q = M0 123 [l0, l1, .val (.int v)] st H Q := w_st (i := 2) (p := isI) (show decode kb0 122 = .ok (.istore_n 2, 1) from by decide +kernel) rfl rfl rfl rfl rfl rfl
theorem m0_123 : M0 123 [.val (.ref r), l1, l2] st H Q = M0 124 [.val (.ref r), l1, l2] (.ref r :: st) H Q := w_x (show decode kb0 123 = .ok (.aload_n 0, 1) from by decide +kernel) rfl
theorem m0_124 : M0 124 [l0, l1, .val (.int v)] st H Q = M0 125 [l0, l1, .val (.int v)] (.int v :: st) H Q := w_x (show decode kb0 124 = .ok (.iload_n 2, 1) from by decide +kernel) rfl
theorem pf0_47 : pfR tables_1 y0.cls y0.name 47 = some ("StreamSigScanner", 12, .int) := by decide +kernel
theorem m0_125 : M0 125 ls (.int v :: .ref (b + 1) :: st) (put (b + 1) pre s A post) Q = M0 128 ls st (put (b + 1) pre (ou s 0 v) A post) Q := w_put (show decode kb0 125 = .ok (.putfield 47, 3) from by decide +kernel) pf0_47 put_o (Nat.succ_le_succ (Nat.zero_le _)) (by show 12 < 29; omega) rfl put_s0
theorem m0_128 : M0 128 [.val (.ref r), l1, l2] st H Q = M0 129 [.val (.ref r), l1, l2] (.ref r :: st) H Q := w_x (show decode kb0 128 = .ok (.aload_n 0, 1) from by decide +kernel) rfl
theorem m0_129 : M0 129 ls st H Q = M0 130 ls (.int 0 :: st) H Q := w_con (show decode kb0 129 = .ok (.iconst 0, 1) from by decide +kernel) rfl (by decide)
theorem pf0_51 : pfR tables_1 y0.cls y0.name 51 = some ("StreamSigScanner", 13, .boolean) := by decide +kernel
theorem m0_130 : M0 130 ls (.int v :: .ref (b + 1) :: st) (put (b + 1) pre s A post) Q = M0 133 ls st (put (b + 1) pre (ou s 1 (nar .boolean v)) A post) Q := w_put (show decode kb0 130 = .ok (.putfield 51, 3) from by decide +kernel) pf0_51 put_o (Nat.succ_le_succ (Nat.zero_le _)) (by show 13 < 29; omega) rfl put_s1
theorem m0_133 : M0 133 [.val (.ref r), l1, l2] st H Q = M0 134 [.val (.ref r), l1, l2] (.ref r :: st) H Q := w_x (show decode kb0 133 = .ok (.aload_n 0, 1) from by decide +kernel) rfl
theorem m0_134 : M0 134 ls st H Q = M0 135 ls (.int 0 :: st) H Q := w_con (show decode kb0 134 = .ok (.iconst 0, 1) from by decide +kernel) rfl (by decide)
theorem pf0_55 : pfR tables_1 y0.cls y0.name 55 = some ("StreamSigScanner", 14, .int) := by decide +kernel
theorem m0_135 : M0 135 ls (.int v :: .ref (b + 1) :: st) (put (b + 1) pre s A post) Q = M0 138 ls st (put (b + 1) pre (ou s 2 v) A post) Q := w_put (show decode kb0 135 = .ok (.putfield 55, 3) from by decide +kernel) pf0_55 put_o (Nat.succ_le_succ (Nat.zero_le _)) (by show 14 < 29; omega) rfl put_s2
theorem m0_138 : M0 138 [.val (.ref r), l1, l2] st H Q = M0 139 [.val (.ref r), l1, l2] (.ref r :: st) H Q := w_x (show decode kb0 138 = .ok (.aload_n 0, 1) from by decide +kernel) rfl
theorem m0_139 : M0 139 ls st H Q = M0 140 ls (.int 0 :: st) H Q := w_con (show decode kb0 139 = .ok (.iconst 0, 1) from by decide +kernel) rfl (by decide)
theorem pf0_58 : pfR tables_1 y0.cls y0.name 58 = some ("StreamSigScanner", 15, .int) := by decide +kernel
theorem m0_140 : M0 140 ls (.int v :: .ref (b + 1) :: st) (put (b + 1) pre s A post) Q = M0 143 ls st (put (b + 1) pre (ou s 3 v) A post) Q := w_put (show decode kb0 140 = .ok (.putfield 58, 3) from by decide +kernel) pf0_58 put_o (Nat.succ_le_succ (Nat.zero_le _)) (by show 15 < 29; omega) rfl put_s3
theorem m0_143 : M0 143 [.val (.ref r), l1, l2] st H Q = M0 144 [.val (.ref r), l1, l2] (.ref r :: st) H Q := w_x (show decode kb0 143 = .ok (.aload_n 0, 1) from by decide +kernel) rfl
theorem m0_144 : M0 144 ls st H Q = M0 145 ls (.int 0 :: st) H Q := w_con (show decode kb0 144 = .ok (.iconst 0, 1) from by decide +kernel) rfl (by decide)
theorem pf0_61 : pfR tables_1 y0.cls y0.name 61 = some ("StreamSigScanner", 16, .int) := by decide +kernel
theorem m0_145 : M0 145 ls (.int v :: .ref (b + 1) :: st) (put (b + 1) pre s A post) Q = M0 148 ls st (put (b + 1) pre (ou s 4 v) A post) Q := w_put (show decode kb0 145 = .ok (.putfield 61, 3) from by decide +kernel) pf0_61 put_o (Nat.succ_le_succ (Nat.zero_le _)) (by show 16 < 29; omega) rfl put_s4
theorem m0_148 : M0 148 [.val (.ref r), l1, l2] st H Q = M0 149 [.val (.ref r), l1, l2] (.ref r :: st) H Q := w_x (show decode kb0 148 = .ok (.aload_n 0, 1) from by decide +kernel) rfl
theorem m0_149 : M0 149 ls st H Q = M0 150 ls (.int 1 :: st) H Q := w_con (show decode kb0 149 = .ok (.iconst 1, 1) from by decide +kernel) rfl (by decide)
theorem pf0_64 : pfR tables_1 y0.cls y0.name 64 = some ("StreamSigScanner", 17, .int) := by decide +kernel
theorem m0_150 : M0 150 ls (.int v :: .ref (b + 1) :: st) (put (b + 1) pre s A post) Q = M0 153 ls st (put (b + 1) pre (ou s 5 v) A post) Q := w_put (show decode kb0 150 = .ok (.putfield 64, 3) from by decide +kernel) pf0_64 put_o (Nat.succ_le_succ (Nat.zero_le _)) (by show 17 < 29; omega) rfl put_s5
theorem m0_153 : M0 153 [.val (.ref r), l1, l2] st H Q = M0 154 [.val (.ref r), l1, l2] (.ref r :: st) H Q := w_x (show decode kb0 153 = .ok (.aload_n 0, 1) from by decide +kernel) rfl
theorem m0_154 : M0 154 ls st H Q = M0 155 ls (.int 0 :: st) H Q := w_con (show decode kb0 154 = .ok (.iconst 0, 1) from by decide +kernel) rfl (by decide)
theorem pf0_67 : pfR tables_1 y0.cls y0.name 67 = some ("StreamSigScanner", 18, .int) := by decide +kernel
theorem m0_155 : M0 155 ls (.int v :: .ref (b + 1) :: st) (put (b + 1) pre s A post) Q = M0 158 ls st (put (b + 1) pre (ou s 6 v) A post) Q := w_put (show decode kb0 155 = .ok (.putfield 67, 3) from by decide +kernel) pf0_67 put_o (Nat.succ_le_succ (Nat.zero_le _)) (by show 18 < 29; omega) rfl put_s6
theorem m0_158 : M0 158 [.val (.ref r), l1, l2] st H Q = M0 159 [.val (.ref r), l1, l2] (.ref r :: st) H Q := w_x (show decode kb0 158 = .ok (.aload_n 0, 1) from by decide +kernel) rfl
theorem m0_159 : M0 159 ls st H Q = M0 160 ls (.int 0 :: st) H Q := w_con (show decode kb0 159 = .ok (.iconst 0, 1) from by decide +kernel) rfl (by decide)
theorem pf0_70 : pfR tables_1 y0.cls y0.name 70 = some ("StreamSigScanner", 19, .int) := by decide +kernel
theorem m0_160 : M0 160 ls (.int v :: .ref (b + 1) :: st) (put (b + 1) pre s A post) Q = M0 163 ls st (put (b + 1) pre (ou s 7 v) A post) Q := w_put (show decode kb0 160 = .ok (.putfield 70, 3) from by decide +kernel) pf0_70 put_o (Nat.succ_le_succ (Nat.zero_le _)) (by show 19 < 29; omega) rfl put_s7
theorem m0_163 : M0 163 [.val (.ref r), l1, l2] st H Q = M0 164 [.val (.ref r), l1, l2] (.ref r :: st) H Q := w_x (show decode kb0 163 = .ok (.aload_n 0, 1) from by decide +kernel) rfl
theorem m0_164 : M0 164 ls st H Q = M0 165 ls (.int 0 :: st) H Q := w_con (show decode kb0 164 = .ok (.iconst 0, 1) from by decide +kernel) rfl (by decide)
theorem pf0_73 : pfR tables_1 y0.cls y0.name 73 = some ("StreamSigScanner", 20, .int) := by decide +kernel
theorem m0_165 : M0 165 ls (.int v :: .ref (b + 1) :: st) (put (b + 1) pre s A post) Q = M0 168 ls st (put (b + 1) pre (ou s 8 v) A post) Q := w_put (show decode kb0 165 = .ok (.putfield 73, 3) from by decide +kernel) pf0_73 put_o (Nat.succ_le_succ (Nat.zero_le _)) (by show 20 < 29; omega) rfl put_s8
theorem m0_168 : M0 168 [.val (.ref r), l1, l2] st H Q = M0 169 [.val (.ref r), l1, l2] (.ref r :: st) H Q := w_x (show decode kb0 168 = .ok (.aload_n 0, 1) from by decide +kernel) rfl
theorem m0_169 : M0 169 ls st H Q = M0 170 ls (.int 0 :: st) H Q := w_con (show decode kb0 169 = .ok (.iconst 0, 1) from by decide +kernel) rfl (by decide)
theorem pf0_76 : pfR tables_1 y0.cls y0.name 76 = some ("StreamSigScanner", 21, .int) := by decide +kernel
theorem m0_170 : M0 170 ls (.int v :: .ref (b + 1) :: st) (put (b + 1) pre s A post) Q = M0 173 ls st (put (b + 1) pre (ou s 9 v) A post) Q := w_put (show decode kb0 170 = .ok (.putfield 76, 3) from by decide +kernel) pf0_76 put_o (Nat.succ_le_succ (Nat.zero_le _)) (by show 21 < 29; omega) rfl put_s9
theorem m0_173 : M0 173 [.val (.ref r), l1, l2] st H Q = M0 174 [.val (.ref r), l1, l2] (.ref r :: st) H Q := w_x (show decode kb0 173 = .ok (.aload_n 0, 1) from by decide +kernel) rfl
theorem m0_174 : M0 174 ls st H Q = M0 175 ls (.int 0 :: st) H Q := w_con (show decode kb0 174 = .ok (.iconst 0, 1) from by decide +kernel) rfl (by decide)
theorem pf0_79 : pfR tables_1 y0.cls y0.name 79 = some ("StreamSigScanner", 22, .int) := by decide +kernel
theorem m0_175 : M0 175 ls (.int v :: .ref (b + 1) :: st) (put (b + 1) pre s A post) Q = M0 178 ls st (put (b + 1) pre (ou s 10 v) A post) Q := w_put (show decode kb0 175 = .ok (.putfield 79, 3) from by decide +kernel) pf0_79 put_o (Nat.succ_le_succ (Nat.zero_le _)) (by show 22 < 29; omega) rfl put_s10
theorem m0_178 : M0 178 [.val (.ref r), l1, l2] st H Q = M0 179 [.val (.ref r), l1, l2] (.ref r :: st) H Q := w_x (show decode kb0 178 = .ok (.aload_n 0, 1) from by decide +kernel) rfl
theorem m0_179 : M0 179 ls st H Q = M0 180 ls (.int 0 :: st) H Q := w_con (show decode kb0 179 = .ok (.iconst 0, 1) from by decide +kernel) rfl (by decide)
theorem pf0_82 : pfR tables_1 y0.cls y0.name 82 = some ("StreamSigScanner", 23, .int) := by decide +kernel
theorem m0_180 : M0 180 ls (.int v :: .ref (b + 1) :: st) (put (b + 1) pre s A post) Q = M0 183 ls st (put (b + 1) pre (ou s 11 v) A post) Q := w_put (show decode kb0 180 = .ok (.putfield 82, 3) from by decide +kernel) pf0_82 put_o (Nat.succ_le_succ (Nat.zero_le _)) (by show 23 < 29; omega) rfl put_s11
theorem m0_183 : M0 183 [.val (.ref r), l1, l2] st H Q = M0 184 [.val (.ref r), l1, l2] (.ref r :: st) H Q := w_x (show decode kb0 183 = .ok (.aload_n 0, 1) from by decide +kernel) rfl
theorem m0_184 : M0 184 ls st H Q = M0 185 ls (.int (-1) :: st) H Q := w_con (show decode kb0 184 = .ok (.iconst (-1), 1) from by decide +kernel) rfl (by decide)
theorem pf0_85 : pfR tables_1 y0.cls y0.name 85 = some ("StreamSigScanner", 24, .int) := by decide +kernel
theorem m0_185 : M0 185 ls (.int v :: .ref (b + 1) :: st) (put (b + 1) pre s A post) Q = M0 188 ls st (put (b + 1) pre (ou s 12 v) A post) Q := w_put (show decode kb0 185 = .ok (.putfield 85, 3) from by decide +kernel) pf0_85 put_o (Nat.succ_le_succ (Nat.zero_le _)) (by show 24 < 29; omega) rfl put_s12
theorem m0_188 : M0 188 [.val (.ref r), l1, l2] st H Q = M0 189 [.val (.ref r), l1, l2] (.ref r :: st) H Q := w_x (show decode kb0 188 = .ok (.aload_n 0, 1) from by decide +kernel) rfl
theorem m0_189 : M0 189 ls st H Q = M0 190 ls (.int 0 :: st) H Q := w_con (show decode kb0 189 = .ok (.iconst 0, 1) from by decide +kernel) rfl (by decide)
theorem pf0_88 : pfR tables_1 y0.cls y0.name 88 = some ("StreamSigScanner", 25, .boolean) := by decide +kernel
theorem m0_190 : M0 190 ls (.int v :: .ref (b + 1) :: st) (put (b + 1) pre s A post) Q = M0 193 ls st (put (b + 1) pre (ou s 13 (nar .boolean v)) A post) Q := w_put (show decode kb0 190 = .ok (.putfield 88, 3) from by decide +kernel) pf0_88 put_o (Nat.succ_le_succ (Nat.zero_le _)) (by show 25 < 29; omega) rfl put_s13
theorem m0_193 : M0 193 [.val (.ref r), l1, l2] st H Q = M0 194 [.val (.ref r), l1, l2] (.ref r :: st) H Q := w_x (show decode kb0 193 = .ok (.aload_n 0, 1) from by decide +kernel) rfl
theorem m0_194 : M0 194 ls st H Q = M0 195 ls (.int (-1) :: st) H Q := w_con (show decode kb0 194 = .ok (.iconst (-1), 1) from by decide +kernel) rfl (by decide)
theorem pf0_91 : pfR tables_1 y0.cls y0.name 91 = some ("StreamSigScanner", 26, .int) := by decide +kernel
theorem m0_195 : M0 195 ls (.int v :: .ref (b + 1) :: st) (put (b + 1) pre s A post) Q = M0 198 ls st (put (b + 1) pre (ou s 14 v) A post) Q := w_put (show decode kb0 195 = .ok (.putfield 91, 3) from by decide +kernel) pf0_91 put_o (Nat.succ_le_succ (Nat.zero_le _)) (by show 26 < 29; omega) rfl put_s14
theorem m0_198 : M0 198 [.val (.ref r), l1, l2] st H Q = M0 199 [.val (.ref r), l1, l2] (.ref r :: st) H Q := w_x (show decode kb0 198 = .ok (.aload_n 0, 1) from by decide +kernel) rfl
theorem m0_199 : M0 199 ls st H Q = M0 200 ls (.int 0 :: st) H Q := w_con (show decode kb0 199 = .ok (.iconst 0, 1) from by decide +kernel) rfl (by decide)
theorem pf0_94 : pfR tables_1 y0.cls y0.name 94 = some ("StreamSigScanner", 27, .int) := by decide +kernel
theorem m0_200 : M0 200 ls (.int v :: .ref (b + 1) :: st) (put (b + 1) pre s A post) Q = M0 203 ls st (put (b + 1) pre (ou s 15 v) A post) Q := w_put (show decode kb0 200 = .ok (.putfield 94, 3) from by decide +kernel) pf0_94 put_o (Nat.succ_le_succ (Nat.zero_le _)) (by show 27 < 29; omega) rfl put_s15
theorem m0_203 : M0 203 [.val (.ref r), l1, l2] st H Q = M0 204 [.val (.ref r), l1, l2] (.ref r :: st) H Q := w_x (show decode kb0 203 = .ok (.aload_n 0, 1) from by decide +kernel) rfl
theorem m0_204 : M0 204 ls st H Q = M0 205 ls (.int 0 :: st) H Q := w_con (show decode kb0 204 = .ok (.iconst 0, 1) from by decide +kernel) rfl (by decide)
theorem pf0_97 : pfR tables_1 y0.cls y0.name 97 = some ("StreamSigScanner", 28, .int) := by decide +kernel
theorem m0_205 : M0 205 ls (.int v :: .ref (b + 1) :: st) (put (b + 1) pre s A post) Q = M0 208 ls st (put (b + 1) pre (ou s 16 v) A post) Q := w_put (show decode kb0 205 = .ok (.putfield 97, 3) from by decide +kernel) pf0_97 put_o (Nat.succ_le_succ (Nat.zero_le _)) (by show 28 < 29; omega) rfl put_s16
theorem m0_208 : M0 208 ls [] H Q = Q none H := w_vret (show decode kb0 208 = .ok (.return_, 1) from by decide +kernel) rfl
theorem m1_0 : M1 0 [l0, .val (.int v)] st H Q = M1 1 [l0, .val (.int v)] (.int v :: st) H Q := w_x (show decode kb1 0 = .ok (.iload_n 1, 1) from by decide +kernel) rfl
theorem m1_1_0 : M1 1 ls (.int 0 :: st) H Q = M1 76 ls st H Q := w_x (show decode kb1 1 = .ok (.tableswitch 180 0 14 #[75, 80, 85, 90, 95, 100, 105, 110, 115, 120, 129, 138, 154, 170, 175], 75) from by decide +kernel) rfl
theorem m1_1_1 : M1 1 ls (.int 1 :: st) H Q = M1 81 ls st H Q := w_x (show decode kb1 1 = .ok (.tableswitch 180 0 14 #[75, 80, 85, 90, 95, 100, 105, 110, 115, 120, 129, 138, 154, 170, 175], 75) from by decide +kernel) rfl
theorem m1_1_2 : M1 1 ls (.int 2 :: st) H Q = M1 86 ls st H Q := w_x (show decode kb1 1 = .ok (.tableswitch 180 0 14 #[75, 80, 85, 90, 95, 100, 105, 110, 115, 120, 129, 138, 154, 170, 175], 75) from by decide +kernel) rfl
theorem m1_1_3 : M1 1 ls (.int 3 :: st) H Q = M1 91 ls st H Q := w_x (show decode kb1 1 = .ok (.tableswitch 180 0 14 #[75, 80, 85, 90, 95, 100, 105, 110, 115, 120, 129, 138, 154, 170, 175], 75) from by decide +kernel) rfl
theorem m1_1_4 : M1 1 ls (.int 4 :: st) H Q = M1 96 ls st H Q := w_x (show decode kb1 1 = .ok (.tableswitch 180 0 14 #[75, 80, 85, 90, 95, 100, 105, 110, 115, 120, 129, 138, 154, 170, 175], 75) from by decide +kernel) rfl
theorem m1_1_5 : M1 1 ls (.int 5 :: st) H Q = M1 101 ls st H Q := w_x (show decode kb1 1 = .ok (.tableswitch 180 0 14 #[75, 80, 85, 90, 95, 100, 105, 110, 115, 120, 129, 138, 154, 170, 175], 75) from by decide +kernel) rfl
theorem m1_1_6 : M1 1 ls (.int 6 :: st) H Q = M1 106 ls st H Q := w_x (show decode kb1 1 = .ok (.tableswitch 180 0 14 #[75, 80, 85, 90, 95, 100, 105, 110, 115, 120, 129, 138, 154, 170, 175], 75) from by decide +kernel) rfl
theorem m1_1_7 : M1 1 ls (.int 7 :: st) H Q = M1 111 ls st H Q := w_x (show decode kb1 1 = .ok (.tableswitch 180 0 14 #[75, 80, 85, 90, 95, 100, 105, 110, 115, 120, 129, 138, 154, 170, 175], 75) from by decide +kernel) rfl
theorem m1_1_8 : M1 1 ls (.int 8 :: st) H Q = M1 116 ls st H Q := w_x (show decode kb1 1 = .ok (.tableswitch 180 0 14 #[75, 80, 85, 90, 95, 100, 105, 110, 115, 120, 129, 138, 154, 170, 175], 75) from by decide +kernel) rfl
theorem m1_1_9 : M1 1 ls (.int 9 :: st) H Q = M1 121 ls st H Q := w_x (show decode kb1 1 = .ok (.tableswitch 180 0 14 #[75, 80, 85, 90, 95, 100, 105, 110, 115, 120, 129, 138, 154, 170, 175], 75) from by decide +kernel) rfl
theorem m1_1_10 : M1 1 ls (.int 10 :: st) H Q = M1 130 ls st H Q := w_x (show decode kb1 1 = .ok (.tableswitch 180 0 14 #[75, 80, 85, 90, 95, 100, 105, 110, 115, 120, 129, 138, 154, 170, 175], 75) from by decide +kernel) rfl
theorem m1_1_11 : M1 1 ls (.int 11 :: st) H Q = M1 139 ls st H Q := w_x (show decode kb1 1 = .ok (.tableswitch 180 0 14 #[75, 80, 85, 90, 95, 100, 105, 110, 115, 120, 129, 138, 154, 170, 175], 75) from by decide +kernel) rfl
theorem m1_1_12 : M1 1 ls (.int 12 :: st) H Q = M1 155 ls st H Q := w_x (show decode kb1 1 = .ok (.tableswitch 180 0 14 #[75, 80, 85, 90, 95, 100, 105, 110, 115, 120, 129, 138, 154, 170, 175], 75) from by decide +kernel) rfl
theorem m1_1_13 : M1 1 ls (.int 13 :: st) H Q = M1 171 ls st H Q := w_x (show decode kb1 1 = .ok (.tableswitch 180 0 14 #[75, 80, 85, 90, 95, 100, 105, 110, 115, 120, 129, 138, 154, 170, 175], 75) from by decide +kernel) rfl
theorem m1_1_14 : M1 1 ls (.int 14 :: st) H Q = M1 176 ls st H Q := w_x (show decode kb1 1 = .ok (.tableswitch 180 0 14 #[75, 80, 85, 90, 95, 100, 105, 110, 115, 120, 129, 138, 154, 170, 175], 75) from by decide +kernel) rfl
theorem m1_1_d (hx : x.toInt < 0 ∨ x.toInt > 14) : M1 1 ls (.int x :: st) H Q = M1 181 ls st H Q := w_x (show decode kb1 1 = .ok (.tableswitch 180 0 14 #[75, 80, 85, 90, 95, 100, 105, 110, 115, 120, 129, 138, 154, 170, 175], 75) from by decide +kernel) (by simp only [xstep, sw, hx, if_true]; rfl)
theorem m1_76 : M1 76 [.val (.ref r), l1] st H Q = M1 77 [.val (.ref r), l1] (.ref r :: st) H Q := w_x (show decode kb1 76 = .ok (.aload_n 0, 1) from by decide +kernel) rfl
theorem m1_77 : M1 77 ls (.ref (b + 1) :: st) (put (b + 1) pre s A post) Q = M1 80 ls (.int (s 7) :: st) (put (b + 1) pre s A post) Q := w_get (show decode kb1 77 = .ok (.getfield 70, 3) from by decide +kernel) gf_70 put_o rfl
theorem m1_80 : M1 80 ls (.int z :: st) H Q = Q (some (.int z)) H := w_iret (show decode kb1 80 = .ok (.ireturn, 1) from by decide +kernel) rfl
theorem m1_81 : M1 81 [.val (.ref r), l1] st H Q = M1 82 [.val (.ref r), l1] (.ref r :: st) H Q := w_x (show decode kb1 81 = .ok (.aload_n 0, 1) from by decide +kernel) rfl
theorem m1_82 : M1 82 ls (.ref (b + 1) :: st) (put (b + 1) pre s A post) Q = M1 85 ls (.int (s 8) :: st) (put (b + 1) pre s A post) Q := w_get (show decode kb1 82 = .ok (.getfield 73, 3) from by decide +kernel) gf_73 put_o rfl
theorem m1_85 : M1 85 ls (.int z :: st) H Q = Q (some (.int z)) H := w_iret (show decode kb1 85 = .ok (.ireturn, 1) from by decide +kernel) rfl
theorem m1_86 : M1 86 [.val (.ref r), l1] st H Q = M1 87 [.val (.ref r), l1] (.ref r :: st) H Q := w_x (show decode kb1 86 = .ok (.aload_n 0, 1) from by decide +kernel) rfl
theorem m1_87 : M1 87 ls (.ref (b + 1) :: st) (put (b + 1) pre s A post) Q = M1 90 ls (.int (s 9) :: st) (put (b + 1) pre s A post) Q := w_get (show decode kb1 87 = .ok (.getfield 76, 3) from by decide +kernel) gf_76 put_o rfl
theorem m1_90 : M1 90 ls (.int z :: st) H Q = Q (some (.int z)) H := w_iret (show decode kb1 90 = .ok (.ireturn, 1) from by decide +kernel) rfl
theorem m1_91 : M1 91 [.val (.ref r), l1] st H Q = M1 92 [.val (.ref r), l1] (.ref r :: st) H Q := w_x (show decode kb1 91 = .ok (.aload_n 0, 1) from by decide +kernel) rfl
theorem m1_92 : M1 92 ls (.ref (b + 1) :: st) (put (b + 1) pre s A post) Q = M1 95 ls (.int (s 10) :: st) (put (b + 1) pre s A post) Q := w_get (show decode kb1 92 = .ok (.getfield 79, 3) from by decide +kernel) gf_79 put_o rfl
theorem m1_95 : M1 95 ls (.int z :: st) H Q = Q (some (.int z)) H := w_iret (show decode kb1 95 = .ok (.ireturn, 1) from by decide +kernel) rfl
theorem m1_96 : M1 96 [.val (.ref r), l1] st H Q = M1 97 [.val (.ref r), l1] (.ref r :: st) H Q := w_x (show decode kb1 96 = .ok (.aload_n 0, 1) from by decide +kernel) rfl
theorem m1_97 : M1 97 ls (.ref (b + 1) :: st) (put (b + 1) pre s A post) Q = M1 100 ls (.int (s 11) :: st) (put (b + 1) pre s A post) Q := w_get (show decode kb1 97 = .ok (.getfield 82, 3) from by decide +kernel) gf_82 put_o rfl
theorem m1_100 : M1 100 ls (.int z :: st) H Q = Q (some (.int z)) H := w_iret (show decode kb1 100 = .ok (.ireturn, 1) from by decide +kernel) rfl
theorem m1_101 : M1 101 [.val (.ref r), l1] st H Q = M1 102 [.val (.ref r), l1] (.ref r :: st) H Q := w_x (show decode kb1 101 = .ok (.aload_n 0, 1) from by decide +kernel) rfl
theorem m1_102 : M1 102 ls (.ref (b + 1) :: st) (put (b + 1) pre s A post) Q = M1 105 ls (.int (s 16) :: st) (put (b + 1) pre s A post) Q := w_get (show decode kb1 102 = .ok (.getfield 97, 3) from by decide +kernel) gf_97 put_o rfl
theorem m1_105 : M1 105 ls (.int z :: st) H Q = Q (some (.int z)) H := w_iret (show decode kb1 105 = .ok (.ireturn, 1) from by decide +kernel) rfl
theorem m1_106 : M1 106 [.val (.ref r), l1] st H Q = M1 107 [.val (.ref r), l1] (.ref r :: st) H Q := w_x (show decode kb1 106 = .ok (.aload_n 0, 1) from by decide +kernel) rfl
theorem m1_107 : M1 107 ls (.ref (b + 1) :: st) (put (b + 1) pre s A post) Q = M1 110 ls (.int (s 2) :: st) (put (b + 1) pre s A post) Q := w_get (show decode kb1 107 = .ok (.getfield 55, 3) from by decide +kernel) gf_55 put_o rfl
theorem m1_110 : M1 110 ls (.int z :: st) H Q = Q (some (.int z)) H := w_iret (show decode kb1 110 = .ok (.ireturn, 1) from by decide +kernel) rfl
theorem m1_111 : M1 111 [.val (.ref r), l1] st H Q = M1 112 [.val (.ref r), l1] (.ref r :: st) H Q := w_x (show decode kb1 111 = .ok (.aload_n 0, 1) from by decide +kernel) rfl
theorem m1_112 : M1 112 ls (.ref (b + 1) :: st) (put (b + 1) pre s A post) Q = M1 115 ls (.int (s 3) :: st) (put (b + 1) pre s A post) Q := w_get (show decode kb1 112 = .ok (.getfield 58, 3) from by decide +kernel) gf_58 put_o rfl
theorem m1_115 : M1 115 ls (.int z :: st) H Q = Q (some (.int z)) H := w_iret (show decode kb1 115 = .ok (.ireturn, 1) from by decide +kernel) rfl
theorem m1_116 : M1 116 [.val (.ref r), l1] st H Q = M1 117 [.val (.ref r), l1] (.ref r :: st) H Q := w_x (show decode kb1 116 = .ok (.aload_n 0, 1) from by decide +kernel) rfl
theorem m1_117 : M1 117 ls (.ref (b + 1) :: st) (put (b + 1) pre s A post) Q = M1 120 ls (.int (s 4) :: st) (put (b + 1) pre s A post) Q := w_get (show decode kb1 117 = .ok (.getfield 61, 3) from by decide +kernel) gf_61 put_o rfl
theorem m1_120 : M1 120 ls (.int z :: st) H Q = Q (some (.int z)) H := w_iret (show decode kb1 120 = .ok (.ireturn, 1) from by decide +kernel) rfl
theorem m1_121 : M1 121 [.val (.ref r), l1] st H Q = M1 122 [.val (.ref r), l1] (.ref r :: st) H Q := w_x (show decode kb1 121 = .ok (.aload_n 0, 1) from by decide +kernel) rfl
theorem m1_122 : M1 122 [.val (.ref r), l1] st H Q = M1 123 [.val (.ref r), l1] (.ref r :: st) H Q := w_x (show decode kb1 122 = .ok (.aload_n 0, 1) from by decide +kernel) rfl
theorem m1_123 : M1 123 ls (.ref (b + 1) :: st) (put (b + 1) pre s A post) Q = M1 126 ls (.int (s 1) :: st) (put (b + 1) pre s A post) Q := w_get (show decode kb1 123 = .ok (.getfield 51, 3) from by decide +kernel) gf_51 put_o rfl
theorem cr1_134 : vR tables_1 dn y1 134 = some (true, y3, prog_1_method_26_code, 2, (some .int), 1, 0) := pR_of (cR_of (by decide +kernel) rc_3 dn_3 dn_1 (sig := ⟨[.boolean], some .int⟩) (by decide +kernel) (by decide +kernel) rfl rfl) (by decide +kernel) (by decide +kernel)
theorem m1_126 (a0 : Int32) : M1 126 ls [.int a0, .ref (b + 1)] (put (b + 1) pre s A post) Q = M3 0 [.val (.ref (b + 1)), .val (.int a0)] [] (put (b + 1) pre s A post) (fun v H1 => M1 129 ls (v.toList ++ []) H1 Q) := w_virt (as := [.int a0]) (rest := []) (a := (b + 1)) (show decode kb1 126 = .ok (.invokevirtual 134, 3) from by decide +kernel) cr1_134 put_o rfl rfl (Nat.le_of_ble_eq_true rfl) (by show 2 ≤ 2; omega) rfl
theorem m1_129 : M1 129 ls (.int z :: st) H Q = Q (some (.int z)) H := w_iret (show decode kb1 129 = .ok (.ireturn, 1) from by decide +kernel) rfl
theorem m1_130 : M1 130 [.val (.ref r), l1] st H Q = M1 131 [.val (.ref r), l1] (.ref r :: st) H Q := w_x (show decode kb1 130 = .ok (.aload_n 0, 1) from by decide +kernel) rfl
theorem m1_131 : M1 131 [.val (.ref r), l1] st H Q = M1 132 [.val (.ref r), l1] (.ref r :: st) H Q := w_x (show decode kb1 131 = .ok (.aload_n 0, 1) from by decide +kernel) rfl
theorem m1_132 : M1 132 ls (.ref (b + 1) :: st) (put (b + 1) pre s A post) Q = M1 135 ls (.int (s 13) :: st) (put (b + 1) pre s A post) Q := w_get (show decode kb1 132 = .ok (.getfield 88, 3) from by decide +kernel) gf_88 put_o rfl
theorem m1_135 (a0 : Int32) : M1 135 ls [.int a0, .ref (b + 1)] (put (b + 1) pre s A post) Q = M3 0 [.val (.ref (b + 1)), .val (.int a0)] [] (put (b + 1) pre s A post) (fun v H1 => M1 138 ls (v.toList ++ []) H1 Q) := w_virt (as := [.int a0]) (rest := []) (a := (b + 1)) (show decode kb1 135 = .ok (.invokevirtual 134, 3) from by decide +kernel) cr1_134 put_o rfl rfl (Nat.le_of_ble_eq_true rfl) (by show 2 ≤ 2; omega) rfl
theorem m1_138 : M1 138 ls (.int z :: st) H Q = Q (some (.int z)) H := w_iret (show decode kb1 138 = .ok (.ireturn, 1) from by decide +kernel) rfl
theorem m1_139 : M1 139 [.val (.ref r), l1] st H Q = M1 140 [.val (.ref r), l1] (.ref r :: st) H Q := w_x (show decode kb1 139 = .ok (.aload_n 0, 1) from by decide +kernel) rfl
theorem m1_140 : M1 140 ls (.ref (b + 1) :: st) (put (b + 1) pre s A post) Q = M1 143 ls (.int (s 13) :: st) (put (b + 1) pre s A post) Q := w_get (show decode kb1 140 = .ok (.getfield 88, 3) from by decide +kernel) gf_88 put_o rfl
theorem m1_143 : M1 143 ls (.int x :: st) H Q = if x = 0 then M1 153 ls st H Q else M1 146 ls st H Q := w_if (show decode kb1 143 = .ok (.ifCond .eq 10, 3) from by decide +kernel) (z_eq x) rfl
theorem m1_146 : M1 146 [.val (.ref r), l1] st H Q = M1 147 [.val (.ref r), l1] (.ref r :: st) H Q := w_x (show decode kb1 146 = .ok (.aload_n 0, 1) from by decide +kernel) rfl
theorem m1_147 : M1 147 ls (.ref (b + 1) :: st) (put (b + 1) pre s A post) Q = M1 150 ls (.int (s 14) :: st) (put (b + 1) pre s A post) Q := w_get (show decode kb1 147 = .ok (.getfield 91, 3) from by decide +kernel) gf_91 put_o rfl
theorem m1_150 : M1 150 ls st H Q = M1 154 ls st H Q := w_x (show decode kb1 150 = .ok (.goto 4, 3) from by decide +kernel) rfl
theorem m1_153 : M1 153 ls st H Q = M1 154 ls (.int (-1) :: st) H Q := w_con (show decode kb1 153 = .ok (.iconst (-1), 1) from by decide +kernel) rfl (by decide)
theorem m1_154 : M1 154 ls (.int z :: st) H Q = Q (some (.int z)) H := w_iret (show decode kb1 154 = .ok (.ireturn, 1) from by decide +kernel) rfl
theorem m1_155 : M1 155 [.val (.ref r), l1] st H Q = M1 156 [.val (.ref r), l1] (.ref r :: st) H Q := w_x (show decode kb1 155 = .ok (.aload_n 0, 1) from by decide +kernel) rfl
theorem m1_156 : M1 156 ls (.ref (b + 1) :: st) (put (b + 1) pre s A post) Q = M1 159 ls (.int (s 13) :: st) (put (b + 1) pre s A post) Q := w_get (show decode kb1 156 = .ok (.getfield 88, 3) from by decide +kernel) gf_88 put_o rfl
theorem m1_159 : M1 159 ls (.int x :: st) H Q = if x = 0 then M1 169 ls st H Q else M1 162 ls st H Q := w_if (show decode kb1 159 = .ok (.ifCond .eq 10, 3) from by decide +kernel) (z_eq x) rfl
theorem m1_162 : M1 162 [.val (.ref r), l1] st H Q = M1 163 [.val (.ref r), l1] (.ref r :: st) H Q := w_x (show decode kb1 162 = .ok (.aload_n 0, 1) from by decide +kernel) rfl
theorem m1_163 : M1 163 ls (.ref (b + 1) :: st) (put (b + 1) pre s A post) Q = M1 166 ls (.int (s 15) :: st) (put (b + 1) pre s A post) Q := w_get (show decode kb1 163 = .ok (.getfield 94, 3) from by decide +kernel) gf_94 put_o rfl
theorem m1_166 : M1 166 ls st H Q = M1 170 ls st H Q := w_x (show decode kb1 166 = .ok (.goto 4, 3) from by decide +kernel) rfl
theorem m1_169 : M1 169 ls st H Q = M1 170 ls (.int 0 :: st) H Q := w_con (show decode kb1 169 = .ok (.iconst 0, 1) from by decide +kernel) rfl (by decide)
theorem m1_170 : M1 170 ls (.int z :: st) H Q = Q (some (.int z)) H := w_iret (show decode kb1 170 = .ok (.ireturn, 1) from by decide +kernel) rfl
theorem m1_171 : M1 171 [.val (.ref r), l1] st H Q = M1 172 [.val (.ref r), l1] (.ref r :: st) H Q := w_x (show decode kb1 171 = .ok (.aload_n 0, 1) from by decide +kernel) rfl
theorem m1_172 : M1 172 ls (.ref (b + 1) :: st) (put (b + 1) pre s A post) Q = M1 175 ls (.int (s 12) :: st) (put (b + 1) pre s A post) Q := w_get (show decode kb1 172 = .ok (.getfield 85, 3) from by decide +kernel) gf_85 put_o rfl
theorem m1_175 : M1 175 ls (.int z :: st) H Q = Q (some (.int z)) H := w_iret (show decode kb1 175 = .ok (.ireturn, 1) from by decide +kernel) rfl
theorem m1_176 : M1 176 [.val (.ref r), l1] st H Q = M1 177 [.val (.ref r), l1] (.ref r :: st) H Q := w_x (show decode kb1 176 = .ok (.aload_n 0, 1) from by decide +kernel) rfl
theorem m1_177 : M1 177 ls (.ref (b + 1) :: st) (put (b + 1) pre s A post) Q = M1 180 ls (.int (s 0) :: st) (put (b + 1) pre s A post) Q := w_get (show decode kb1 177 = .ok (.getfield 47, 3) from by decide +kernel) gf_47 put_o rfl
theorem m1_180 : M1 180 ls (.int z :: st) H Q = Q (some (.int z)) H := w_iret (show decode kb1 180 = .ok (.ireturn, 1) from by decide +kernel) rfl
theorem m1_181 : M1 181 ls st H Q = M1 182 ls (.int (-1) :: st) H Q := w_con (show decode kb1 181 = .ok (.iconst (-1), 1) from by decide +kernel) rfl (by decide)
theorem m1_182 : M1 182 ls (.int z :: st) H Q = Q (some (.int z)) H := w_iret (show decode kb1 182 = .ok (.ireturn, 1) from by decide +kernel) rfl
theorem m2_0 : M2 0 [.val (.ref r), l1] st H Q = M2 1 [.val (.ref r), l1] (.ref r :: st) H Q := w_x (show decode kb2 0 = .ok (.aload_n 0, 1) from by decide +kernel) rfl
theorem m2_1 : M2 1 ls (.ref (b + 1) :: st) (put (b + 1) pre s A post) Q = M2 4 ls (.int (s 1) :: st) (put (b + 1) pre s A post) Q := w_get (show decode kb2 1 = .ok (.getfield 51, 3) from by decide +kernel) gf_51 put_o rfl
theorem m2_4 : M2 4 ls (.int x :: st) H Q = if x = 0 then M2 7 ls st H Q else M2 9 ls st H Q := w_ifN (show decode kb2 4 = .ok (.ifCond .ne 5, 3) from by decide +kernel) (z_ne x) rfl
theorem m2_7 : M2 7 ls st H Q = M2 8 ls (.int (-1) :: st) H Q := w_con (show decode kb2 7 = .ok (.iconst (-1), 1) from by decide +kernel) rfl (by decide)
theorem m2_8 : M2 8 ls (.int z :: st) H Q = Q (some (.int z)) H := w_iret (show decode kb2 8 = .ok (.ireturn, 1) from by decide +kernel) rfl
theorem m2_9 : M2 9 [.val (.ref r), l1] st H Q = M2 10 [.val (.ref r), l1] (.ref r :: st) H Q := w_x (show decode kb2 9 = .ok (.aload_n 0, 1) from by decide +kernel) rfl
theorem m2_10 : M2 10 ls (.ref (b + 1) :: st) (put (b + 1) pre s A post) Q = M2 13 ls (.int (s 13) :: st) (put (b + 1) pre s A post) Q := w_get (show decode kb2 10 = .ok (.getfield 88, 3) from by decide +kernel) gf_88 put_o rfl
theorem m2_13 : M2 13 ls (.int x :: st) H Q = if x = 0 then M2 18 ls st H Q else M2 16 ls st H Q := w_if (show decode kb2 13 = .ok (.ifCond .eq 5, 3) from by decide +kernel) (z_eq x) rfl
theorem m2_16 : M2 16 ls st H Q = M2 17 ls (.int (-1) :: st) H Q := w_con (show decode kb2 16 = .ok (.iconst (-1), 1) from by decide +kernel) rfl (by decide)
theorem m2_17 : M2 17 ls (.int z :: st) H Q = Q (some (.int z)) H := w_iret (show decode kb2 17 = .ok (.ireturn, 1) from by decide +kernel) rfl
theorem m2_18 : M2 18 [.val (.ref r), l1] st H Q = M2 19 [.val (.ref r), l1] (.ref r :: st) H Q := w_x (show decode kb2 18 = .ok (.aload_n 0, 1) from by decide +kernel) rfl
theorem m2_19 : M2 19 [l0, .val (.int v)] st H Q = M2 20 [l0, .val (.int v)] (.int v :: st) H Q := w_x (show decode kb2 19 = .ok (.iload_n 1, 1) from by decide +kernel) rfl
theorem cr2_117 : vR tables_1 dn y2 117 = some (true, y5, prog_1_method_23_code, 2, (some .boolean), 1, 0) := pR_of (cR_of (by decide +kernel) rc_5 dn_5 dn_2 (sig := ⟨[.int], some .boolean⟩) (by decide +kernel) (by decide +kernel) rfl rfl) (by decide +kernel) (by decide +kernel)
theorem m2_20 (a0 : Int32) : M2 20 ls [.int a0, .ref (b + 1)] (put (b + 1) pre s A post) Q = M5 0 [.val (.ref (b + 1)), .val (.int a0)] [] (put (b + 1) pre s A post) (fun v H1 => M2 23 ls (v.toList ++ []) H1 Q) := w_virt (as := [.int a0]) (rest := []) (a := (b + 1)) (show decode kb2 20 = .ok (.invokevirtual 117, 3) from by decide +kernel) cr2_117 put_o rfl rfl (Nat.le_of_ble_eq_true rfl) (by show 2 ≤ 2; omega) rfl
theorem m2_23 : M2 23 ls (.int x :: st) H Q = if x = 0 then M2 26 ls st H Q else M2 29 ls st H Q := w_ifN (show decode kb2 23 = .ok (.ifCond .ne 6, 3) from by decide +kernel) (z_ne x) rfl
theorem m2_26 : M2 26 ls st H Q = M2 28 ls (.int (-5) :: st) H Q := w_con (show decode kb2 26 = .ok (.bipush (-5), 2) from by decide +kernel) rfl (by decide)
theorem m2_28 : M2 28 ls (.int z :: st) H Q = Q (some (.int z)) H := w_iret (show decode kb2 28 = .ok (.ireturn, 1) from by decide +kernel) rfl
theorem m2_29 : M2 29 [.val (.ref r), l1] st H Q = M2 30 [.val (.ref r), l1] (.ref r :: st) H Q := w_x (show decode kb2 29 = .ok (.aload_n 0, 1) from by decide +kernel) rfl
theorem m2_30 : M2 30 ls st H Q = M2 31 ls (.int 1 :: st) H Q := w_con (show decode kb2 30 = .ok (.iconst 1, 1) from by decide +kernel) rfl (by decide)
theorem pf2_88 : pfR tables_1 y2.cls y2.name 88 = some ("StreamSigScanner", 25, .boolean) := by decide +kernel
theorem m2_31 : M2 31 ls (.int v :: .ref (b + 1) :: st) (put (b + 1) pre s A post) Q = M2 34 ls st (put (b + 1) pre (ou s 13 (nar .boolean v)) A post) Q := w_put (show decode kb2 31 = .ok (.putfield 88, 3) from by decide +kernel) pf2_88 put_o (Nat.succ_le_succ (Nat.zero_le _)) (by show 25 < 29; omega) rfl put_s13
theorem m2_34 : M2 34 [.val (.ref r), l1] st H Q = M2 35 [.val (.ref r), l1] (.ref r :: st) H Q := w_x (show decode kb2 34 = .ok (.aload_n 0, 1) from by decide +kernel) rfl
theorem m2_35 : M2 35 [l0, .val (.int v)] st H Q = M2 36 [l0, .val (.int v)] (.int v :: st) H Q := w_x (show decode kb2 35 = .ok (.iload_n 1, 1) from by decide +kernel) rfl
theorem pf2_91 : pfR tables_1 y2.cls y2.name 91 = some ("StreamSigScanner", 26, .int) := by decide +kernel
theorem m2_36 : M2 36 ls (.int v :: .ref (b + 1) :: st) (put (b + 1) pre s A post) Q = M2 39 ls st (put (b + 1) pre (ou s 14 v) A post) Q := w_put (show decode kb2 36 = .ok (.putfield 91, 3) from by decide +kernel) pf2_91 put_o (Nat.succ_le_succ (Nat.zero_le _)) (by show 26 < 29; omega) rfl put_s14
theorem m2_39 : M2 39 [.val (.ref r), l1] st H Q = M2 40 [.val (.ref r), l1] (.ref r :: st) H Q := w_x (show decode kb2 39 = .ok (.aload_n 0, 1) from by decide +kernel) rfl
theorem m2_40 : M2 40 ls st H Q = M2 41 ls (.int 0 :: st) H Q := w_con (show decode kb2 40 = .ok (.iconst 0, 1) from by decide +kernel) rfl (by decide)
theorem pf2_94 : pfR tables_1 y2.cls y2.name 94 = some ("StreamSigScanner", 27, .int) := by decide +kernel
theorem m2_41 : M2 41 ls (.int v :: .ref (b + 1) :: st) (put (b + 1) pre s A post) Q = M2 44 ls st (put (b + 1) pre (ou s 15 v) A post) Q := w_put (show decode kb2 41 = .ok (.putfield 94, 3) from by decide +kernel) pf2_94 put_o (Nat.succ_le_succ (Nat.zero_le _)) (by show 27 < 29; omega) rfl put_s15
theorem m2_44 : M2 44 ls st H Q = M2 45 ls (.int 0 :: st) H Q := w_con (show decode kb2 44 = .ok (.iconst 0, 1) from by decide +kernel) rfl (by decide)
theorem m2_45 : M2 45 ls (.int z :: st) H Q = Q (some (.int z)) H := w_iret (show decode kb2 45 = .ok (.ireturn, 1) from by decide +kernel) rfl
theorem m3_0 : M3 0 [l0, .val (.int v)] st H Q = M3 1 [l0, .val (.int v)] (.int v :: st) H Q := w_x (show decode kb3 0 = .ok (.iload_n 1, 1) from by decide +kernel) rfl
theorem m3_1 : M3 1 ls (.int x :: st) H Q = if x = 0 then M3 8 ls st H Q else M3 4 ls st H Q := w_if (show decode kb3 1 = .ok (.ifCond .eq 7, 3) from by decide +kernel) (z_eq x) rfl
theorem m3_4 : M3 4 ls st H Q = M3 5 ls (.int 1 :: st) H Q := w_con (show decode kb3 4 = .ok (.iconst 1, 1) from by decide +kernel) rfl (by decide)
theorem m3_5 : M3 5 ls st H Q = M3 9 ls st H Q := w_x (show decode kb3 5 = .ok (.goto 4, 3) from by decide +kernel) rfl
theorem m3_8 : M3 8 ls st H Q = M3 9 ls (.int 0 :: st) H Q := w_con (show decode kb3 8 = .ok (.iconst 0, 1) from by decide +kernel) rfl (by decide)
theorem m3_9 : M3 9 ls (.int z :: st) H Q = Q (some (.int z)) H := w_iret (show decode kb3 9 = .ok (.ireturn, 1) from by decide +kernel) rfl
theorem m4_0 : M4 0 [.val (.ref r), l1] st H Q = M4 1 [.val (.ref r), l1] (.ref r :: st) H Q := w_x (show decode kb4 0 = .ok (.aload_n 0, 1) from by decide +kernel) rfl
theorem m4_1 : M4 1 [l0, .val (.int v)] st H Q = M4 2 [l0, .val (.int v)] (.int v :: st) H Q := w_x (show decode kb4 1 = .ok (.iload_n 1, 1) from by decide +kernel) rfl
theorem cr4_117 : vR tables_1 dn y4 117 = some (true, y5, prog_1_method_23_code, 2, (some .boolean), 1, 0) := pR_of (cR_of (by decide +kernel) rc_5 dn_5 dn_4 (sig := ⟨[.int], some .boolean⟩) (by decide +kernel) (by decide +kernel) rfl rfl) (by decide +kernel) (by decide +kernel)
theorem m4_2 (a0 : Int32) : M4 2 ls [.int a0, .ref (b + 1)] (put (b + 1) pre s A post) Q = M5 0 [.val (.ref (b + 1)), .val (.int a0)] [] (put (b + 1) pre s A post) (fun v H1 => M4 5 ls (v.toList ++ []) H1 Q) := w_virt (as := [.int a0]) (rest := []) (a := (b + 1)) (show decode kb4 2 = .ok (.invokevirtual 117, 3) from by decide +kernel) cr4_117 put_o rfl rfl (Nat.le_of_ble_eq_true rfl) (by show 2 ≤ 2; omega) rfl
theorem m4_5 : M4 5 ls (.int x :: st) H Q = if x = 0 then M4 8 ls st H Q else M4 10 ls st H Q := w_ifN (show decode kb4 5 = .ok (.ifCond .ne 5, 3) from by decide +kernel) (z_ne x) rfl
theorem m4_8 : M4 8 ls st H Q = M4 9 ls (.int (-1) :: st) H Q := w_con (show decode kb4 8 = .ok (.iconst (-1), 1) from by decide +kernel) rfl (by decide)
theorem m4_9 : M4 9 ls (.int z :: st) H Q = Q (some (.int z)) H := w_iret (show decode kb4 9 = .ok (.ireturn, 1) from by decide +kernel) rfl
theorem m4_10 : M4 10 [.val (.ref r), l1] st H Q = M4 11 [.val (.ref r), l1] (.ref r :: st) H Q := w_x (show decode kb4 10 = .ok (.aload_n 0, 1) from by decide +kernel) rfl
theorem m4_11 : M4 11 ls (.ref (b + 1) :: st) (put (b + 1) pre s A post) Q = M4 14 ls (.ref ((b + 1) + 8) :: st) (put (b + 1) pre s A post) Q := w_get (show decode kb4 11 = .ok (.getfield 31, 3) from by decide +kernel) gf_31 put_o rfl
theorem m4_14 : M4 14 [l0, .val (.int v)] st H Q = M4 15 [l0, .val (.int v)] (.int v :: st) H Q := w_x (show decode kb4 14 = .ok (.iload_n 1, 1) from by decide +kernel) rfl
theorem m4_15  : M4 15 ls (.int j :: .ref ((b + 1) + 8) :: st) (put (b + 1) pre s A post) Q = (inB j (A 7) ∧ M4 16 ls (.int (getA (A 7) j) :: st) (put (b + 1) pre s A post) Q) := w_ild (show decode kb4 15 = .ok (.baload, 1) from by decide +kernel) rfl put_a7
theorem m4_16 : M4 16 ls (.int x :: st) H Q = if x = 0 then M4 19 ls st H Q else M4 21 ls st H Q := w_ifN (show decode kb4 16 = .ok (.ifCond .ne 5, 3) from by decide +kernel) (z_ne x) rfl
theorem m4_19 : M4 19 ls st H Q = M4 20 ls (.int (-1) :: st) H Q := w_con (show decode kb4 19 = .ok (.iconst (-1), 1) from by decide +kernel) rfl (by decide)
theorem m4_20 : M4 20 ls (.int z :: st) H Q = Q (some (.int z)) H := w_iret (show decode kb4 20 = .ok (.ireturn, 1) from by decide +kernel) rfl
theorem m4_21 : M4 21 [.val (.ref r), l1] st H Q = M4 22 [.val (.ref r), l1] (.ref r :: st) H Q := w_x (show decode kb4 21 = .ok (.aload_n 0, 1) from by decide +kernel) rfl
theorem m4_22 : M4 22 ls (.ref (b + 1) :: st) (put (b + 1) pre s A post) Q = M4 25 ls (.ref ((b + 1) + 9) :: st) (put (b + 1) pre s A post) Q := w_get (show decode kb4 22 = .ok (.getfield 35, 3) from by decide +kernel) gf_35 put_o rfl
theorem m4_25 : M4 25 [l0, .val (.int v)] st H Q = M4 26 [l0, .val (.int v)] (.int v :: st) H Q := w_x (show decode kb4 25 = .ok (.iload_n 1, 1) from by decide +kernel) rfl
theorem m4_26  : M4 26 ls (.int j :: .ref ((b + 1) + 9) :: st) (put (b + 1) pre s A post) Q = (inB j (A 8) ∧ M4 27 ls (.int (getA (A 8) j) :: st) (put (b + 1) pre s A post) Q) := w_ild (show decode kb4 26 = .ok (.iaload, 1) from by decide +kernel) rfl put_a8
theorem m4_27 : M4 27 ls (.int z :: st) H Q = Q (some (.int z)) H := w_iret (show decode kb4 27 = .ok (.ireturn, 1) from by decide +kernel) rfl
theorem m5_0 : M5 0 [l0, .val (.int v)] st H Q = M5 1 [l0, .val (.int v)] (.int v :: st) H Q := w_x (show decode kb5 0 = .ok (.iload_n 1, 1) from by decide +kernel) rfl
theorem m5_1 : M5 1 ls (.int x :: st) H Q = if x < 0 then M5 15 ls st H Q else M5 4 ls st H Q := w_if (show decode kb5 1 = .ok (.ifCond .lt 14, 3) from by decide +kernel) (z_lt x) rfl
theorem m5_4 : M5 4 [l0, .val (.int v)] st H Q = M5 5 [l0, .val (.int v)] (.int v :: st) H Q := w_x (show decode kb5 4 = .ok (.iload_n 1, 1) from by decide +kernel) rfl
theorem m5_5 : M5 5 ls st H Q = M5 8 ls (.int 256 :: st) H Q := w_con (show decode kb5 5 = .ok (.sipush 256, 3) from by decide +kernel) rfl (by decide)
theorem m5_8 : M5 8 ls (.int y :: .int x :: st) H Q = if x < y then M5 11 ls st H Q else M5 15 ls st H Q := w_icmpN (show decode kb5 8 = .ok (.if_icmp .ge 7, 3) from by decide +kernel) (i_ge x y) rfl
theorem m5_11 : M5 11 ls st H Q = M5 12 ls (.int 1 :: st) H Q := w_con (show decode kb5 11 = .ok (.iconst 1, 1) from by decide +kernel) rfl (by decide)
theorem m5_12 : M5 12 ls st H Q = M5 16 ls st H Q := w_x (show decode kb5 12 = .ok (.goto 4, 3) from by decide +kernel) rfl
theorem m5_15 : M5 15 ls st H Q = M5 16 ls (.int 0 :: st) H Q := w_con (show decode kb5 15 = .ok (.iconst 0, 1) from by decide +kernel) rfl (by decide)
theorem m5_16 : M5 16 ls (.int z :: st) H Q = Q (some (.int (nar .boolean z))) H := w_iretN (show decode kb5 16 = .ok (.ireturn, 1) from by decide +kernel) rfl (by simp)
theorem m6_0 : M6 0 [.val (.ref r), l1] st H Q = M6 1 [.val (.ref r), l1] (.ref r :: st) H Q := w_x (show decode kb6 0 = .ok (.aload_n 0, 1) from by decide +kernel) rfl
theorem m6_1 : M6 1 [l0, .val (.int v)] st H Q = M6 2 [l0, .val (.int v)] (.int v :: st) H Q := w_x (show decode kb6 1 = .ok (.iload_n 1, 1) from by decide +kernel) rfl
theorem cr6_141 : vR tables_1 dn y6 141 = some (true, y7, prog_1_method_25_code, 3, (some .boolean), 1, 0) := pR_of (cR_of (by decide +kernel) rc_7 dn_7 dn_6 (sig := ⟨[.int], some .boolean⟩) (by decide +kernel) (by decide +kernel) rfl rfl) (by decide +kernel) (by decide +kernel)
theorem m6_2 (a0 : Int32) : M6 2 ls [.int a0, .ref (b + 1)] (put (b + 1) pre s A post) Q = M7 0 [.val (.ref (b + 1)), .val (.int a0), .unset] [] (put (b + 1) pre s A post) (fun v H1 => M6 5 ls (v.toList ++ []) H1 Q) := w_virt (as := [.int a0]) (rest := []) (a := (b + 1)) (show decode kb6 2 = .ok (.invokevirtual 141, 3) from by decide +kernel) cr6_141 put_o rfl rfl (Nat.le_of_ble_eq_true rfl) (by show 2 ≤ 3; omega) rfl
theorem m6_5 : M6 5 ls (.int x :: st) H Q = if x = 0 then M6 8 ls st H Q else M6 10 ls st H Q := w_ifN (show decode kb6 5 = .ok (.ifCond .ne 5, 3) from by decide +kernel) (z_ne x) rfl
theorem m6_8 : M6 8 ls st H Q = M6 9 ls (.int (-1) :: st) H Q := w_con (show decode kb6 8 = .ok (.iconst (-1), 1) from by decide +kernel) rfl (by decide)
theorem m6_9 : M6 9 ls (.int z :: st) H Q = Q (some (.int z)) H := w_iret (show decode kb6 9 = .ok (.ireturn, 1) from by decide +kernel) rfl
theorem m6_10 : M6 10 [.val (.ref r), l1] st H Q = M6 11 [.val (.ref r), l1] (.ref r :: st) H Q := w_x (show decode kb6 10 = .ok (.aload_n 0, 1) from by decide +kernel) rfl
theorem m6_11 : M6 11 ls (.ref (b + 1) :: st) (put (b + 1) pre s A post) Q = M6 14 ls (.ref ((b + 1) + 11) :: st) (put (b + 1) pre s A post) Q := w_get (show decode kb6 11 = .ok (.getfield 41, 3) from by decide +kernel) gf_41 put_o rfl
theorem m6_14 : M6 14 [l0, .val (.int v)] st H Q = M6 15 [l0, .val (.int v)] (.int v :: st) H Q := w_x (show decode kb6 14 = .ok (.iload_n 1, 1) from by decide +kernel) rfl
theorem m6_15  : M6 15 ls (.int j :: .ref ((b + 1) + 11) :: st) (put (b + 1) pre s A post) Q = (inB j (A 10) ∧ M6 16 ls (.int (getA (A 10) j) :: st) (put (b + 1) pre s A post) Q) := w_ild (show decode kb6 15 = .ok (.iaload, 1) from by decide +kernel) rfl put_a10
theorem m6_16 : M6 16 ls (.int z :: st) H Q = Q (some (.int z)) H := w_iret (show decode kb6 16 = .ok (.ireturn, 1) from by decide +kernel) rfl
theorem m7_0 : M7 0 [.val (.ref r), l1, l2] st H Q = M7 1 [.val (.ref r), l1, l2] (.ref r :: st) H Q := w_x (show decode kb7 0 = .ok (.aload_n 0, 1) from by decide +kernel) rfl
theorem m7_1 : M7 1 ls (.ref (b + 1) :: st) (put (b + 1) pre s A post) Q = M7 4 ls (.int (s 16) :: st) (put (b + 1) pre s A post) Q := w_get (show decode kb7 1 = .ok (.getfield 97, 3) from by decide +kernel) gf_97 put_o rfl
theorem m7_4u : M7 4 [l0, l1, .unset] ((.int v) :: st) H Q = M7 5 [l0, l1, .val (.int v)] st H Q := w_st (i := 2) (p := isI) (show decode kb7 4 = .ok (.istore_n 2, 1) from by decide +kernel) rfl rfl rfl rfl rfl rfl
theorem m7_5 : M7 5 [l0, l1, .val (.int v)] st H Q = M7 6 [l0, l1, .val (.int v)] (.int v :: st) H Q := w_x (show decode kb7 5 = .ok (.iload_n 2, 1) from by decide +kernel) rfl
theorem m7_6 : M7 6 ls st H Q = M7 8 ls (.int 64 :: st) H Q := w_con (show decode kb7 6 = .ok (.bipush 64, 2) from by decide +kernel) rfl (by decide)
theorem m7_8 : M7 8 ls (.int y :: .int x :: st) H Q = if y < x then M7 11 ls st H Q else M7 14 ls st H Q := w_icmpN (show decode kb7 8 = .ok (.if_icmp .le 6, 3) from by decide +kernel) (i_le x y) rfl
theorem m7_11 : M7 11 ls st H Q = M7 13 ls (.int 64 :: st) H Q := w_con (show decode kb7 11 = .ok (.bipush 64, 2) from by decide +kernel) rfl (by decide)
theorem m7_13i : M7 13 [l0, l1, .val (.int z)] ((.int v) :: st) H Q = M7 14 [l0, l1, .val (.int v)] st H Q := w_st (i := 2) (p := isI) (show decode kb7 13 = .ok (.istore_n 2, 1) from by decide +kernel) rfl rfl rfl rfl rfl rfl
theorem m7_14 : M7 14 [l0, .val (.int v), l2] st H Q = M7 15 [l0, .val (.int v), l2] (.int v :: st) H Q := w_x (show decode kb7 14 = .ok (.iload_n 1, 1) from by decide +kernel) rfl
theorem m7_15 : M7 15 ls (.int x :: st) H Q = if x < 0 then M7 27 ls st H Q else M7 18 ls st H Q := w_if (show decode kb7 15 = .ok (.ifCond .lt 12, 3) from by decide +kernel) (z_lt x) rfl
theorem m7_18 : M7 18 [l0, .val (.int v), l2] st H Q = M7 19 [l0, .val (.int v), l2] (.int v :: st) H Q := w_x (show decode kb7 18 = .ok (.iload_n 1, 1) from by decide +kernel) rfl
theorem m7_19 : M7 19 [l0, l1, .val (.int v)] st H Q = M7 20 [l0, l1, .val (.int v)] (.int v :: st) H Q := w_x (show decode kb7 19 = .ok (.iload_n 2, 1) from by decide +kernel) rfl
theorem m7_20 : M7 20 ls (.int y :: .int x :: st) H Q = if x < y then M7 23 ls st H Q else M7 27 ls st H Q := w_icmpN (show decode kb7 20 = .ok (.if_icmp .ge 7, 3) from by decide +kernel) (i_ge x y) rfl
theorem m7_23 : M7 23 ls st H Q = M7 24 ls (.int 1 :: st) H Q := w_con (show decode kb7 23 = .ok (.iconst 1, 1) from by decide +kernel) rfl (by decide)
theorem m7_24 : M7 24 ls st H Q = M7 28 ls st H Q := w_x (show decode kb7 24 = .ok (.goto 4, 3) from by decide +kernel) rfl
theorem m7_27 : M7 27 ls st H Q = M7 28 ls (.int 0 :: st) H Q := w_con (show decode kb7 27 = .ok (.iconst 0, 1) from by decide +kernel) rfl (by decide)
theorem m7_28 : M7 28 ls (.int z :: st) H Q = Q (some (.int (nar .boolean z))) H := w_iretN (show decode kb7 28 = .ok (.ireturn, 1) from by decide +kernel) rfl (by simp)
theorem m8_0 : M8 0 [.val (.ref r), l1] st H Q = M8 1 [.val (.ref r), l1] (.ref r :: st) H Q := w_x (show decode kb8 0 = .ok (.aload_n 0, 1) from by decide +kernel) rfl
theorem m8_1 : M8 1 [l0, .val (.int v)] st H Q = M8 2 [l0, .val (.int v)] (.int v :: st) H Q := w_x (show decode kb8 1 = .ok (.iload_n 1, 1) from by decide +kernel) rfl
theorem cr8_141 : vR tables_1 dn y8 141 = some (true, y7, prog_1_method_25_code, 3, (some .boolean), 1, 0) := pR_of (cR_of (by decide +kernel) rc_7 dn_7 dn_8 (sig := ⟨[.int], some .boolean⟩) (by decide +kernel) (by decide +kernel) rfl rfl) (by decide +kernel) (by decide +kernel)
theorem m8_2 (a0 : Int32) : M8 2 ls [.int a0, .ref (b + 1)] (put (b + 1) pre s A post) Q = M7 0 [.val (.ref (b + 1)), .val (.int a0), .unset] [] (put (b + 1) pre s A post) (fun v H1 => M8 5 ls (v.toList ++ []) H1 Q) := w_virt (as := [.int a0]) (rest := []) (a := (b + 1)) (show decode kb8 2 = .ok (.invokevirtual 141, 3) from by decide +kernel) cr8_141 put_o rfl rfl (Nat.le_of_ble_eq_true rfl) (by show 2 ≤ 3; omega) rfl
theorem m8_5 : M8 5 ls (.int x :: st) H Q = if x = 0 then M8 8 ls st H Q else M8 10 ls st H Q := w_ifN (show decode kb8 5 = .ok (.ifCond .ne 5, 3) from by decide +kernel) (z_ne x) rfl
theorem m8_8 : M8 8 ls st H Q = M8 9 ls (.int (-1) :: st) H Q := w_con (show decode kb8 8 = .ok (.iconst (-1), 1) from by decide +kernel) rfl (by decide)
theorem m8_9 : M8 9 ls (.int z :: st) H Q = Q (some (.int z)) H := w_iret (show decode kb8 9 = .ok (.ireturn, 1) from by decide +kernel) rfl
theorem m8_10 : M8 10 [.val (.ref r), l1] st H Q = M8 11 [.val (.ref r), l1] (.ref r :: st) H Q := w_x (show decode kb8 10 = .ok (.aload_n 0, 1) from by decide +kernel) rfl
theorem m8_11 : M8 11 ls (.ref (b + 1) :: st) (put (b + 1) pre s A post) Q = M8 14 ls (.ref ((b + 1) + 12) :: st) (put (b + 1) pre s A post) Q := w_get (show decode kb8 11 = .ok (.getfield 44, 3) from by decide +kernel) gf_44 put_o rfl
theorem m8_14 : M8 14 [l0, .val (.int v)] st H Q = M8 15 [l0, .val (.int v)] (.int v :: st) H Q := w_x (show decode kb8 14 = .ok (.iload_n 1, 1) from by decide +kernel) rfl
theorem m8_15  : M8 15 ls (.int j :: .ref ((b + 1) + 12) :: st) (put (b + 1) pre s A post) Q = (inB j (A 11) ∧ M8 16 ls (.int (getA (A 11) j) :: st) (put (b + 1) pre s A post) Q) := w_ild (show decode kb8 15 = .ok (.iaload, 1) from by decide +kernel) rfl put_a11
theorem m8_16 : M8 16 ls (.int z :: st) H Q = Q (some (.int z)) H := w_iret (show decode kb8 16 = .ok (.ireturn, 1) from by decide +kernel) rfl
theorem m9_0 : M9 0 [.val (.ref r), l1] st H Q = M9 1 [.val (.ref r), l1] (.ref r :: st) H Q := w_x (show decode kb9 0 = .ok (.aload_n 0, 1) from by decide +kernel) rfl
theorem m9_1 : M9 1 ls (.ref (b + 1) :: st) (put (b + 1) pre s A post) Q = M9 4 ls (.int (s 1) :: st) (put (b + 1) pre s A post) Q := w_get (show decode kb9 1 = .ok (.getfield 51, 3) from by decide +kernel) gf_51 put_o rfl
theorem m9_4 : M9 4 ls (.int x :: st) H Q = if x = 0 then M9 9 ls st H Q else M9 7 ls st H Q := w_if (show decode kb9 4 = .ok (.ifCond .eq 5, 3) from by decide +kernel) (z_eq x) rfl
theorem m9_7 : M9 7 ls st H Q = M9 8 ls (.int (-1) :: st) H Q := w_con (show decode kb9 7 = .ok (.iconst (-1), 1) from by decide +kernel) rfl (by decide)
theorem m9_8 : M9 8 ls (.int z :: st) H Q = Q (some (.int z)) H := w_iret (show decode kb9 8 = .ok (.ireturn, 1) from by decide +kernel) rfl
theorem m9_9 : M9 9 [.val (.ref r), l1] st H Q = M9 10 [.val (.ref r), l1] (.ref r :: st) H Q := w_x (show decode kb9 9 = .ok (.aload_n 0, 1) from by decide +kernel) rfl
theorem m9_10 : M9 10 ls (.ref (b + 1) :: st) (put (b + 1) pre s A post) Q = M9 13 ls (.int (s 4) :: st) (put (b + 1) pre s A post) Q := w_get (show decode kb9 10 = .ok (.getfield 61, 3) from by decide +kernel) gf_61 put_o rfl
theorem m9_13 : M9 13 ls (.int x :: st) H Q = if x = 0 then M9 16 ls st H Q else M9 19 ls st H Q := w_ifN (show decode kb9 13 = .ok (.ifCond .ne 6, 3) from by decide +kernel) (z_ne x) rfl
theorem m9_16 : M9 16 ls st H Q = M9 18 ls (.int (-4) :: st) H Q := w_con (show decode kb9 16 = .ok (.bipush (-4), 2) from by decide +kernel) rfl (by decide)
theorem m9_18 : M9 18 ls (.int z :: st) H Q = Q (some (.int z)) H := w_iret (show decode kb9 18 = .ok (.ireturn, 1) from by decide +kernel) rfl
theorem m9_19 : M9 19 [.val (.ref r), l1] st H Q = M9 20 [.val (.ref r), l1] (.ref r :: st) H Q := w_x (show decode kb9 19 = .ok (.aload_n 0, 1) from by decide +kernel) rfl
theorem m9_20 : M9 20 ls (.ref (b + 1) :: st) (put (b + 1) pre s A post) Q = M9 23 ls (.int (s 2) :: st) (put (b + 1) pre s A post) Q := w_get (show decode kb9 20 = .ok (.getfield 55, 3) from by decide +kernel) gf_55 put_o rfl
theorem m9_23u : M9 23 [l0, .unset] ((.int v) :: st) H Q = M9 24 [l0, .val (.int v)] st H Q := w_st (i := 1) (p := isI) (show decode kb9 23 = .ok (.istore_n 1, 1) from by decide +kernel) rfl rfl rfl rfl rfl rfl
theorem m9_24 : M9 24 [l0, .val (.int v)] st H Q = M9 25 [l0, .val (.int v)] (.int v :: st) H Q := w_x (show decode kb9 24 = .ok (.iload_n 1, 1) from by decide +kernel) rfl
theorem m9_25 : M9 25 ls (.int x :: st) H Q = if x < 0 then M9 34 ls st H Q else M9 28 ls st H Q := w_if (show decode kb9 25 = .ok (.ifCond .lt 9, 3) from by decide +kernel) (z_lt x) rfl
theorem m9_28 : M9 28 [l0, .val (.int v)] st H Q = M9 29 [l0, .val (.int v)] (.int v :: st) H Q := w_x (show decode kb9 28 = .ok (.iload_n 1, 1) from by decide +kernel) rfl
theorem m9_29 : M9 29 ls st H Q = M9 31 ls (.int 16 :: st) H Q := w_con (show decode kb9 29 = .ok (.bipush 16, 2) from by decide +kernel) rfl (by decide)
theorem m9_31 : M9 31 ls (.int y :: .int x :: st) H Q = if x < y then M9 37 ls st H Q else M9 34 ls st H Q := w_icmp (show decode kb9 31 = .ok (.if_icmp .lt 6, 3) from by decide +kernel) (i_lt x y) rfl
theorem m9_34 : M9 34 ls st H Q = M9 36 ls (.int (-3) :: st) H Q := w_con (show decode kb9 34 = .ok (.bipush (-3), 2) from by decide +kernel) rfl (by decide)
theorem m9_36 : M9 36 ls (.int z :: st) H Q = Q (some (.int z)) H := w_iret (show decode kb9 36 = .ok (.ireturn, 1) from by decide +kernel) rfl
theorem m9_37 : M9 37 [.val (.ref r), l1] st H Q = M9 38 [.val (.ref r), l1] (.ref r :: st) H Q := w_x (show decode kb9 37 = .ok (.aload_n 0, 1) from by decide +kernel) rfl
theorem m9_38 : M9 38 ls (.ref (b + 1) :: st) (put (b + 1) pre s A post) Q = M9 41 ls (.ref ((b + 1) + 2) :: st) (put (b + 1) pre s A post) Q := w_get (show decode kb9 38 = .ok (.getfield 13, 3) from by decide +kernel) gf_13 put_o rfl
theorem m9_41 : M9 41 [l0, .val (.int v)] st H Q = M9 42 [l0, .val (.int v)] (.int v :: st) H Q := w_x (show decode kb9 41 = .ok (.iload_n 1, 1) from by decide +kernel) rfl
theorem m9_42 : M9 42 [.val (.ref r), l1] st H Q = M9 43 [.val (.ref r), l1] (.ref r :: st) H Q := w_x (show decode kb9 42 = .ok (.aload_n 0, 1) from by decide +kernel) rfl
theorem m9_43 : M9 43 ls (.ref (b + 1) :: st) (put (b + 1) pre s A post) Q = M9 46 ls (.int (s 3) :: st) (put (b + 1) pre s A post) Q := w_get (show decode kb9 43 = .ok (.getfield 58, 3) from by decide +kernel) gf_58 put_o rfl
theorem m9_46  : M9 46 ls (.int v :: .int j :: .ref ((b + 1) + 2) :: st) (put (b + 1) pre s A post) Q = (inB j (A 1) ∧ M9 47 ls st (put (b + 1) pre s (ou A 1 (setA (A 1) j v)) post) Q) := w_ist (show decode kb9 46 = .ok (.iastore, 1) from by decide +kernel) rfl put_a1 (by omega) rfl put_w1
theorem m9_47 : M9 47 [.val (.ref r), l1] st H Q = M9 48 [.val (.ref r), l1] (.ref r :: st) H Q := w_x (show decode kb9 47 = .ok (.aload_n 0, 1) from by decide +kernel) rfl
theorem m9_48 : M9 48 ls (.ref (b + 1) :: st) (put (b + 1) pre s A post) Q = M9 51 ls (.ref ((b + 1) + 3) :: st) (put (b + 1) pre s A post) Q := w_get (show decode kb9 48 = .ok (.getfield 16, 3) from by decide +kernel) gf_16 put_o rfl
theorem m9_51 : M9 51 [l0, .val (.int v)] st H Q = M9 52 [l0, .val (.int v)] (.int v :: st) H Q := w_x (show decode kb9 51 = .ok (.iload_n 1, 1) from by decide +kernel) rfl
theorem m9_52 : M9 52 [.val (.ref r), l1] st H Q = M9 53 [.val (.ref r), l1] (.ref r :: st) H Q := w_x (show decode kb9 52 = .ok (.aload_n 0, 1) from by decide +kernel) rfl
theorem m9_53 : M9 53 ls (.ref (b + 1) :: st) (put (b + 1) pre s A post) Q = M9 56 ls (.int (s 4) :: st) (put (b + 1) pre s A post) Q := w_get (show decode kb9 53 = .ok (.getfield 61, 3) from by decide +kernel) gf_61 put_o rfl
theorem m9_56  : M9 56 ls (.int v :: .int j :: .ref ((b + 1) + 3) :: st) (put (b + 1) pre s A post) Q = (inB j (A 2) ∧ M9 57 ls st (put (b + 1) pre s (ou A 2 (setA (A 2) j v)) post) Q) := w_ist (show decode kb9 56 = .ok (.iastore, 1) from by decide +kernel) rfl put_a2 (by omega) rfl put_w2
theorem m9_57 : M9 57 [.val (.ref r), l1] st H Q = M9 58 [.val (.ref r), l1] (.ref r :: st) H Q := w_x (show decode kb9 57 = .ok (.aload_n 0, 1) from by decide +kernel) rfl
theorem m9_58 : M9 58 ls ((.ref r) :: st) H Q = M9 59 ls ((.ref r) :: (.ref r) :: st) H Q := w_x (show decode kb9 58 = .ok (.dup, 1) from by decide +kernel) rfl
theorem m9_59 : M9 59 ls (.ref (b + 1) :: st) (put (b + 1) pre s A post) Q = M9 62 ls (.int (s 3) :: st) (put (b + 1) pre s A post) Q := w_get (show decode kb9 59 = .ok (.getfield 58, 3) from by decide +kernel) gf_58 put_o rfl
theorem m9_62 : M9 62 [.val (.ref r), l1] st H Q = M9 63 [.val (.ref r), l1] (.ref r :: st) H Q := w_x (show decode kb9 62 = .ok (.aload_n 0, 1) from by decide +kernel) rfl
theorem m9_63 : M9 63 ls (.ref (b + 1) :: st) (put (b + 1) pre s A post) Q = M9 66 ls (.int (s 4) :: st) (put (b + 1) pre s A post) Q := w_get (show decode kb9 63 = .ok (.getfield 61, 3) from by decide +kernel) gf_61 put_o rfl
theorem m9_66 : M9 66 ls (.int y :: .int x :: st) H Q = M9 67 ls (.int (x + y) :: st) H Q := w_x (show decode kb9 66 = .ok (.iadd, 1) from by decide +kernel) rfl
theorem pf9_58 : pfR tables_1 y9.cls y9.name 58 = some ("StreamSigScanner", 15, .int) := by decide +kernel
theorem m9_67 : M9 67 ls (.int v :: .ref (b + 1) :: st) (put (b + 1) pre s A post) Q = M9 70 ls st (put (b + 1) pre (ou s 3 v) A post) Q := w_put (show decode kb9 67 = .ok (.putfield 58, 3) from by decide +kernel) pf9_58 put_o (Nat.succ_le_succ (Nat.zero_le _)) (by show 15 < 29; omega) rfl put_s3
theorem m9_70 : M9 70 [.val (.ref r), l1] st H Q = M9 71 [.val (.ref r), l1] (.ref r :: st) H Q := w_x (show decode kb9 70 = .ok (.aload_n 0, 1) from by decide +kernel) rfl
theorem m9_71 : M9 71 ls st H Q = M9 72 ls (.int 0 :: st) H Q := w_con (show decode kb9 71 = .ok (.iconst 0, 1) from by decide +kernel) rfl (by decide)
theorem pf9_61 : pfR tables_1 y9.cls y9.name 61 = some ("StreamSigScanner", 16, .int) := by decide +kernel
theorem m9_72 : M9 72 ls (.int v :: .ref (b + 1) :: st) (put (b + 1) pre s A post) Q = M9 75 ls st (put (b + 1) pre (ou s 4 v) A post) Q := w_put (show decode kb9 72 = .ok (.putfield 61, 3) from by decide +kernel) pf9_61 put_o (Nat.succ_le_succ (Nat.zero_le _)) (by show 16 < 29; omega) rfl put_s4
theorem m9_75 : M9 75 [.val (.ref r), l1] st H Q = M9 76 [.val (.ref r), l1] (.ref r :: st) H Q := w_x (show decode kb9 75 = .ok (.aload_n 0, 1) from by decide +kernel) rfl
theorem m9_76 : M9 76 [l0, .val (.int v)] st H Q = M9 77 [l0, .val (.int v)] (.int v :: st) H Q := w_x (show decode kb9 76 = .ok (.iload_n 1, 1) from by decide +kernel) rfl
theorem m9_77 : M9 77 ls st H Q = M9 78 ls (.int 1 :: st) H Q := w_con (show decode kb9 77 = .ok (.iconst 1, 1) from by decide +kernel) rfl (by decide)
theorem m9_78 : M9 78 ls (.int y :: .int x :: st) H Q = M9 79 ls (.int (x + y) :: st) H Q := w_x (show decode kb9 78 = .ok (.iadd, 1) from by decide +kernel) rfl
theorem pf9_55 : pfR tables_1 y9.cls y9.name 55 = some ("StreamSigScanner", 14, .int) := by decide +kernel
theorem m9_79 : M9 79 ls (.int v :: .ref (b + 1) :: st) (put (b + 1) pre s A post) Q = M9 82 ls st (put (b + 1) pre (ou s 2 v) A post) Q := w_put (show decode kb9 79 = .ok (.putfield 55, 3) from by decide +kernel) pf9_55 put_o (Nat.succ_le_succ (Nat.zero_le _)) (by show 14 < 29; omega) rfl put_s2
theorem m9_82 : M9 82 [l0, .val (.int v)] st H Q = M9 83 [l0, .val (.int v)] (.int v :: st) H Q := w_x (show decode kb9 82 = .ok (.iload_n 1, 1) from by decide +kernel) rfl
theorem m9_83 : M9 83 ls (.int z :: st) H Q = Q (some (.int z)) H := w_iret (show decode kb9 83 = .ok (.ireturn, 1) from by decide +kernel) rfl
theorem m10_0 : M10 0 [.val (.ref r), l1, l2] st H Q = M10 1 [.val (.ref r), l1, l2] (.ref r :: st) H Q := w_x (show decode kb10 0 = .ok (.aload_n 0, 1) from by decide +kernel) rfl
theorem m10_1 : M10 1 ls (.ref (b + 1) :: st) (put (b + 1) pre s A post) Q = M10 4 ls (.int (s 1) :: st) (put (b + 1) pre s A post) Q := w_get (show decode kb10 1 = .ok (.getfield 51, 3) from by decide +kernel) gf_51 put_o rfl
theorem m10_4 : M10 4 ls (.int x :: st) H Q = if x = 0 then M10 9 ls st H Q else M10 7 ls st H Q := w_if (show decode kb10 4 = .ok (.ifCond .eq 5, 3) from by decide +kernel) (z_eq x) rfl
theorem m10_7 : M10 7 ls st H Q = M10 8 ls (.int (-1) :: st) H Q := w_con (show decode kb10 7 = .ok (.iconst (-1), 1) from by decide +kernel) rfl (by decide)
theorem m10_8 : M10 8 ls (.int z :: st) H Q = Q (some (.int z)) H := w_iret (show decode kb10 8 = .ok (.ireturn, 1) from by decide +kernel) rfl
theorem m10_9 : M10 9 [.val (.ref r), l1, l2] st H Q = M10 10 [.val (.ref r), l1, l2] (.ref r :: st) H Q := w_x (show decode kb10 9 = .ok (.aload_n 0, 1) from by decide +kernel) rfl
theorem m10_10 : M10 10 [l0, .val (.int v), l2] st H Q = M10 11 [l0, .val (.int v), l2] (.int v :: st) H Q := w_x (show decode kb10 10 = .ok (.iload_n 1, 1) from by decide +kernel) rfl
theorem cr10_100 : vR tables_1 dn y10 100 = some (true, y11, prog_1_method_22_code, 2, (some .boolean), 1, 0) := pR_of (cR_of (by decide +kernel) rc_11 dn_11 dn_10 (sig := ⟨[.int], some .boolean⟩) (by decide +kernel) (by decide +kernel) rfl rfl) (by decide +kernel) (by decide +kernel)
theorem m10_11 (a0 : Int32) : M10 11 ls [.int a0, .ref (b + 1)] (put (b + 1) pre s A post) Q = M11 0 [.val (.ref (b + 1)), .val (.int a0)] [] (put (b + 1) pre s A post) (fun v H1 => M10 14 ls (v.toList ++ []) H1 Q) := w_virt (as := [.int a0]) (rest := []) (a := (b + 1)) (show decode kb10 11 = .ok (.invokevirtual 100, 3) from by decide +kernel) cr10_100 put_o rfl rfl (Nat.le_of_ble_eq_true rfl) (by show 2 ≤ 2; omega) rfl
theorem m10_14 : M10 14 ls (.int x :: st) H Q = if x = 0 then M10 17 ls st H Q else M10 20 ls st H Q := w_ifN (show decode kb10 14 = .ok (.ifCond .ne 6, 3) from by decide +kernel) (z_ne x) rfl
theorem m10_17 : M10 17 ls st H Q = M10 19 ls (.int (-2) :: st) H Q := w_con (show decode kb10 17 = .ok (.bipush (-2), 2) from by decide +kernel) rfl (by decide)
theorem m10_19 : M10 19 ls (.int z :: st) H Q = Q (some (.int z)) H := w_iret (show decode kb10 19 = .ok (.ireturn, 1) from by decide +kernel) rfl
theorem m10_20 : M10 20 [.val (.ref r), l1, l2] st H Q = M10 21 [.val (.ref r), l1, l2] (.ref r :: st) H Q := w_x (show decode kb10 20 = .ok (.aload_n 0, 1) from by decide +kernel) rfl
theorem m10_21 : M10 21 ls (.ref (b + 1) :: st) (put (b + 1) pre s A post) Q = M10 24 ls (.int (s 2) :: st) (put (b + 1) pre s A post) Q := w_get (show decode kb10 21 = .ok (.getfield 55, 3) from by decide +kernel) gf_55 put_o rfl
theorem m10_24 : M10 24 ls st H Q = M10 26 ls (.int 16 :: st) H Q := w_con (show decode kb10 24 = .ok (.bipush 16, 2) from by decide +kernel) rfl (by decide)
theorem m10_26 : M10 26 ls (.int y :: .int x :: st) H Q = if x < y then M10 32 ls st H Q else M10 29 ls st H Q := w_icmp (show decode kb10 26 = .ok (.if_icmp .lt 6, 3) from by decide +kernel) (i_lt x y) rfl
theorem m10_29 : M10 29 ls st H Q = M10 31 ls (.int (-3) :: st) H Q := w_con (show decode kb10 29 = .ok (.bipush (-3), 2) from by decide +kernel) rfl (by decide)
theorem m10_31 : M10 31 ls (.int z :: st) H Q = Q (some (.int z)) H := w_iret (show decode kb10 31 = .ok (.ireturn, 1) from by decide +kernel) rfl
theorem m10_32 : M10 32 [.val (.ref r), l1, l2] st H Q = M10 33 [.val (.ref r), l1, l2] (.ref r :: st) H Q := w_x (show decode kb10 32 = .ok (.aload_n 0, 1) from by decide +kernel) rfl
theorem m10_33 : M10 33 ls (.ref (b + 1) :: st) (put (b + 1) pre s A post) Q = M10 36 ls (.int (s 4) :: st) (put (b + 1) pre s A post) Q := w_get (show decode kb10 33 = .ok (.getfield 61, 3) from by decide +kernel) gf_61 put_o rfl
theorem m10_36 : M10 36 ls st H Q = M10 38 ls (.int 16 :: st) H Q := w_con (show decode kb10 36 = .ok (.bipush 16, 2) from by decide +kernel) rfl (by decide)
theorem m10_38 : M10 38 ls (.int y :: .int x :: st) H Q = if x < y then M10 44 ls st H Q else M10 41 ls st H Q := w_icmp (show decode kb10 38 = .ok (.if_icmp .lt 6, 3) from by decide +kernel) (i_lt x y) rfl
theorem m10_41 : M10 41 ls st H Q = M10 43 ls (.int (-3) :: st) H Q := w_con (show decode kb10 41 = .ok (.bipush (-3), 2) from by decide +kernel) rfl (by decide)
theorem m10_43 : M10 43 ls (.int z :: st) H Q = Q (some (.int z)) H := w_iret (show decode kb10 43 = .ok (.ireturn, 1) from by decide +kernel) rfl
theorem m10_44 : M10 44 [.val (.ref r), l1, l2] st H Q = M10 45 [.val (.ref r), l1, l2] (.ref r :: st) H Q := w_x (show decode kb10 44 = .ok (.aload_n 0, 1) from by decide +kernel) rfl
theorem m10_45 : M10 45 ls (.ref (b + 1) :: st) (put (b + 1) pre s A post) Q = M10 48 ls (.int (s 3) :: st) (put (b + 1) pre s A post) Q := w_get (show decode kb10 45 = .ok (.getfield 58, 3) from by decide +kernel) gf_58 put_o rfl
theorem m10_48 : M10 48 [.val (.ref r), l1, l2] st H Q = M10 49 [.val (.ref r), l1, l2] (.ref r :: st) H Q := w_x (show decode kb10 48 = .ok (.aload_n 0, 1) from by decide +kernel) rfl
theorem m10_49 : M10 49 ls (.ref (b + 1) :: st) (put (b + 1) pre s A post) Q = M10 52 ls (.int (s 4) :: st) (put (b + 1) pre s A post) Q := w_get (show decode kb10 49 = .ok (.getfield 61, 3) from by decide +kernel) gf_61 put_o rfl
theorem m10_52 : M10 52 ls (.int y :: .int x :: st) H Q = M10 53 ls (.int (x + y) :: st) H Q := w_x (show decode kb10 52 = .ok (.iadd, 1) from by decide +kernel) rfl
theorem m10_53 : M10 53 ls st H Q = M10 55 ls (.int 64 :: st) H Q := w_con (show decode kb10 53 = .ok (.bipush 64, 2) from by decide +kernel) rfl (by decide)
theorem m10_55 : M10 55 ls (.int y :: .int x :: st) H Q = if x < y then M10 61 ls st H Q else M10 58 ls st H Q := w_icmp (show decode kb10 55 = .ok (.if_icmp .lt 6, 3) from by decide +kernel) (i_lt x y) rfl
theorem m10_58 : M10 58 ls st H Q = M10 60 ls (.int (-3) :: st) H Q := w_con (show decode kb10 58 = .ok (.bipush (-3), 2) from by decide +kernel) rfl (by decide)
theorem m10_60 : M10 60 ls (.int z :: st) H Q = Q (some (.int z)) H := w_iret (show decode kb10 60 = .ok (.ireturn, 1) from by decide +kernel) rfl
theorem m10_61 : M10 61 [.val (.ref r), l1, l2] st H Q = M10 62 [.val (.ref r), l1, l2] (.ref r :: st) H Q := w_x (show decode kb10 61 = .ok (.aload_n 0, 1) from by decide +kernel) rfl
theorem m10_62 : M10 62 ls (.ref (b + 1) :: st) (put (b + 1) pre s A post) Q = M10 65 ls (.int (s 3) :: st) (put (b + 1) pre s A post) Q := w_get (show decode kb10 62 = .ok (.getfield 58, 3) from by decide +kernel) gf_58 put_o rfl
theorem m10_65 : M10 65 [.val (.ref r), l1, l2] st H Q = M10 66 [.val (.ref r), l1, l2] (.ref r :: st) H Q := w_x (show decode kb10 65 = .ok (.aload_n 0, 1) from by decide +kernel) rfl
theorem m10_66 : M10 66 ls (.ref (b + 1) :: st) (put (b + 1) pre s A post) Q = M10 69 ls (.int (s 4) :: st) (put (b + 1) pre s A post) Q := w_get (show decode kb10 66 = .ok (.getfield 61, 3) from by decide +kernel) gf_61 put_o rfl
theorem m10_69 : M10 69 ls (.int y :: .int x :: st) H Q = M10 70 ls (.int (x + y) :: st) H Q := w_x (show decode kb10 69 = .ok (.iadd, 1) from by decide +kernel) rfl
theorem m10_70u : M10 70 [l0, l1, .unset] ((.int v) :: st) H Q = M10 71 [l0, l1, .val (.int v)] st H Q := w_st (i := 2) (p := isI) (show decode kb10 70 = .ok (.istore_n 2, 1) from by decide +kernel) rfl rfl rfl rfl rfl rfl
theorem m10_71 : M10 71 [l0, l1, .val (.int v)] st H Q = M10 72 [l0, l1, .val (.int v)] (.int v :: st) H Q := w_x (show decode kb10 71 = .ok (.iload_n 2, 1) from by decide +kernel) rfl
theorem m10_72 : M10 72 ls (.int x :: st) H Q = if x < 0 then M10 81 ls st H Q else M10 75 ls st H Q := w_if (show decode kb10 72 = .ok (.ifCond .lt 9, 3) from by decide +kernel) (z_lt x) rfl
theorem m10_75 : M10 75 [l0, l1, .val (.int v)] st H Q = M10 76 [l0, l1, .val (.int v)] (.int v :: st) H Q := w_x (show decode kb10 75 = .ok (.iload_n 2, 1) from by decide +kernel) rfl
theorem m10_76 : M10 76 ls st H Q = M10 78 ls (.int 64 :: st) H Q := w_con (show decode kb10 76 = .ok (.bipush 64, 2) from by decide +kernel) rfl (by decide)
theorem m10_78 : M10 78 ls (.int y :: .int x :: st) H Q = if x < y then M10 84 ls st H Q else M10 81 ls st H Q := w_icmp (show decode kb10 78 = .ok (.if_icmp .lt 6, 3) from by decide +kernel) (i_lt x y) rfl
theorem m10_81 : M10 81 ls st H Q = M10 83 ls (.int (-3) :: st) H Q := w_con (show decode kb10 81 = .ok (.bipush (-3), 2) from by decide +kernel) rfl (by decide)
theorem m10_83 : M10 83 ls (.int z :: st) H Q = Q (some (.int z)) H := w_iret (show decode kb10 83 = .ok (.ireturn, 1) from by decide +kernel) rfl
theorem m10_84 : M10 84 [.val (.ref r), l1, l2] st H Q = M10 85 [.val (.ref r), l1, l2] (.ref r :: st) H Q := w_x (show decode kb10 84 = .ok (.aload_n 0, 1) from by decide +kernel) rfl
theorem m10_85 : M10 85 ls (.ref (b + 1) :: st) (put (b + 1) pre s A post) Q = M10 88 ls (.ref ((b + 1) + 1) :: st) (put (b + 1) pre s A post) Q := w_get (show decode kb10 85 = .ok (.getfield 7, 3) from by decide +kernel) gf_7 put_o rfl
theorem m10_88 : M10 88 [l0, l1, .val (.int v)] st H Q = M10 89 [l0, l1, .val (.int v)] (.int v :: st) H Q := w_x (show decode kb10 88 = .ok (.iload_n 2, 1) from by decide +kernel) rfl
theorem m10_89 : M10 89 [l0, .val (.int v), l2] st H Q = M10 90 [l0, .val (.int v), l2] (.int v :: st) H Q := w_x (show decode kb10 89 = .ok (.iload_n 1, 1) from by decide +kernel) rfl
theorem m10_90  : M10 90 ls (.int v :: .int j :: .ref ((b + 1) + 1) :: st) (put (b + 1) pre s A post) Q = (inB j (A 0) ∧ M10 91 ls st (put (b + 1) pre s (ou A 0 (setA (A 0) j v)) post) Q) := w_ist (show decode kb10 90 = .ok (.iastore, 1) from by decide +kernel) rfl put_a0 (by omega) rfl put_w0
theorem m10_91 : M10 91 [.val (.ref r), l1, l2] st H Q = M10 92 [.val (.ref r), l1, l2] (.ref r :: st) H Q := w_x (show decode kb10 91 = .ok (.aload_n 0, 1) from by decide +kernel) rfl
theorem m10_92 : M10 92 ls ((.ref r) :: st) H Q = M10 93 ls ((.ref r) :: (.ref r) :: st) H Q := w_x (show decode kb10 92 = .ok (.dup, 1) from by decide +kernel) rfl
theorem m10_93 : M10 93 ls (.ref (b + 1) :: st) (put (b + 1) pre s A post) Q = M10 96 ls (.int (s 4) :: st) (put (b + 1) pre s A post) Q := w_get (show decode kb10 93 = .ok (.getfield 61, 3) from by decide +kernel) gf_61 put_o rfl
theorem m10_96 : M10 96 ls st H Q = M10 97 ls (.int 1 :: st) H Q := w_con (show decode kb10 96 = .ok (.iconst 1, 1) from by decide +kernel) rfl (by decide)
theorem m10_97 : M10 97 ls (.int y :: .int x :: st) H Q = M10 98 ls (.int (x + y) :: st) H Q := w_x (show decode kb10 97 = .ok (.iadd, 1) from by decide +kernel) rfl
theorem pf10_61 : pfR tables_1 y10.cls y10.name 61 = some ("StreamSigScanner", 16, .int) := by decide +kernel
theorem m10_98 : M10 98 ls (.int v :: .ref (b + 1) :: st) (put (b + 1) pre s A post) Q = M10 101 ls st (put (b + 1) pre (ou s 4 v) A post) Q := w_put (show decode kb10 98 = .ok (.putfield 61, 3) from by decide +kernel) pf10_61 put_o (Nat.succ_le_succ (Nat.zero_le _)) (by show 16 < 29; omega) rfl put_s4
theorem m10_101 : M10 101 ls st H Q = M10 102 ls (.int 0 :: st) H Q := w_con (show decode kb10 101 = .ok (.iconst 0, 1) from by decide +kernel) rfl (by decide)
theorem m10_102 : M10 102 ls (.int z :: st) H Q = Q (some (.int z)) H := w_iret (show decode kb10 102 = .ok (.ireturn, 1) from by decide +kernel) rfl
theorem m11_0 : M11 0 [l0, .val (.int v)] st H Q = M11 1 [l0, .val (.int v)] (.int v :: st) H Q := w_x (show decode kb11 0 = .ok (.iload_n 1, 1) from by decide +kernel) rfl
theorem m11_1 : M11 1 ls (.int x :: st) H Q = if x < 0 then M11 15 ls st H Q else M11 4 ls st H Q := w_if (show decode kb11 1 = .ok (.ifCond .lt 14, 3) from by decide +kernel) (z_lt x) rfl
theorem m11_4 : M11 4 [l0, .val (.int v)] st H Q = M11 5 [l0, .val (.int v)] (.int v :: st) H Q := w_x (show decode kb11 4 = .ok (.iload_n 1, 1) from by decide +kernel) rfl
theorem m11_5 : M11 5 ls st H Q = M11 8 ls (.int 255 :: st) H Q := w_con (show decode kb11 5 = .ok (.sipush 255, 3) from by decide +kernel) rfl (by decide)
theorem m11_8 : M11 8 ls (.int y :: .int x :: st) H Q = if y < x then M11 15 ls st H Q else M11 11 ls st H Q := w_icmp (show decode kb11 8 = .ok (.if_icmp .gt 7, 3) from by decide +kernel) (i_gt x y) rfl
theorem m11_11 : M11 11 ls st H Q = M11 12 ls (.int 1 :: st) H Q := w_con (show decode kb11 11 = .ok (.iconst 1, 1) from by decide +kernel) rfl (by decide)
theorem m11_12 : M11 12 ls st H Q = M11 16 ls st H Q := w_x (show decode kb11 12 = .ok (.goto 4, 3) from by decide +kernel) rfl
theorem m11_15 : M11 15 ls st H Q = M11 16 ls (.int 0 :: st) H Q := w_con (show decode kb11 15 = .ok (.iconst 0, 1) from by decide +kernel) rfl (by decide)
theorem m11_16 : M11 16 ls (.int z :: st) H Q = Q (some (.int (nar .boolean z))) H := w_iretN (show decode kb11 16 = .ok (.ireturn, 1) from by decide +kernel) rfl (by simp)
theorem m12_0 : M12 0 [.val (.ref r)] st H Q = M12 1 [.val (.ref r)] (.ref r :: st) H Q := w_x (show decode kb12 0 = .ok (.aload_n 0, 1) from by decide +kernel) rfl
theorem m12_1 : M12 1 ls (.ref (b + 1) :: st) (put (b + 1) pre s A post) Q = M12 4 ls (.int (s 1) :: st) (put (b + 1) pre s A post) Q := w_get (show decode kb12 1 = .ok (.getfield 51, 3) from by decide +kernel) gf_51 put_o rfl
theorem m12_4 : M12 4 ls (.int x :: st) H Q = if x = 0 then M12 9 ls st H Q else M12 7 ls st H Q := w_if (show decode kb12 4 = .ok (.ifCond .eq 5, 3) from by decide +kernel) (z_eq x) rfl
theorem m12_7 : M12 7 ls st H Q = M12 8 ls (.int (-1) :: st) H Q := w_con (show decode kb12 7 = .ok (.iconst (-1), 1) from by decide +kernel) rfl (by decide)
theorem m12_8 : M12 8 ls (.int z :: st) H Q = Q (some (.int z)) H := w_iret (show decode kb12 8 = .ok (.ireturn, 1) from by decide +kernel) rfl
theorem m12_9 : M12 9 [.val (.ref r)] st H Q = M12 10 [.val (.ref r)] (.ref r :: st) H Q := w_x (show decode kb12 9 = .ok (.aload_n 0, 1) from by decide +kernel) rfl
theorem m12_10 : M12 10 ls (.ref (b + 1) :: st) (put (b + 1) pre s A post) Q = M12 13 ls (.int (s 4) :: st) (put (b + 1) pre s A post) Q := w_get (show decode kb12 10 = .ok (.getfield 61, 3) from by decide +kernel) gf_61 put_o rfl
theorem m12_13 : M12 13 ls (.int x :: st) H Q = if x = 0 then M12 18 ls st H Q else M12 16 ls st H Q := w_if (show decode kb12 13 = .ok (.ifCond .eq 5, 3) from by decide +kernel) (z_eq x) rfl
theorem m12_16 : M12 16 ls st H Q = M12 17 ls (.int (-1) :: st) H Q := w_con (show decode kb12 16 = .ok (.iconst (-1), 1) from by decide +kernel) rfl (by decide)
theorem m12_17 : M12 17 ls (.int z :: st) H Q = Q (some (.int z)) H := w_iret (show decode kb12 17 = .ok (.ireturn, 1) from by decide +kernel) rfl
theorem m12_18 : M12 18 [.val (.ref r)] st H Q = M12 19 [.val (.ref r)] (.ref r :: st) H Q := w_x (show decode kb12 18 = .ok (.aload_n 0, 1) from by decide +kernel) rfl
theorem m12_19 : M12 19 ls (.ref (b + 1) :: st) (put (b + 1) pre s A post) Q = M12 22 ls (.int (s 2) :: st) (put (b + 1) pre s A post) Q := w_get (show decode kb12 19 = .ok (.getfield 55, 3) from by decide +kernel) gf_55 put_o rfl
theorem m12_22 : M12 22 ls (.int x :: st) H Q = if x = 0 then M12 25 ls st H Q else M12 28 ls st H Q := w_ifN (show decode kb12 22 = .ok (.ifCond .ne 6, 3) from by decide +kernel) (z_ne x) rfl
theorem m12_25 : M12 25 ls st H Q = M12 27 ls (.int (-4) :: st) H Q := w_con (show decode kb12 25 = .ok (.bipush (-4), 2) from by decide +kernel) rfl (by decide)
theorem m12_27 : M12 27 ls (.int z :: st) H Q = Q (some (.int z)) H := w_iret (show decode kb12 27 = .ok (.ireturn, 1) from by decide +kernel) rfl
theorem m12_28 : M12 28 [.val (.ref r)] st H Q = M12 29 [.val (.ref r)] (.ref r :: st) H Q := w_x (show decode kb12 28 = .ok (.aload_n 0, 1) from by decide +kernel) rfl
theorem cr12_104 : vR tables_1 dn y12 104 = some (true, y13, prog_1_method_5_code, 2, none, 0, 0) := pR_of (cR_of (by decide +kernel) rc_13 dn_13 dn_12 (sig := ⟨[], none⟩) (by decide +kernel) (by decide +kernel) rfl rfl) (by decide +kernel) (by decide +kernel)
theorem m12_29 : M12 29 ls [.ref (b + 1)] (put (b + 1) pre s A post) Q = M13 0 [.val (.ref (b + 1)), .unset] [] (put (b + 1) pre s A post) (fun v H1 => M12 32 ls (v.toList ++ []) H1 Q) := w_virt (as := []) (rest := []) (a := (b + 1)) (show decode kb12 29 = .ok (.invokevirtual 104, 3) from by decide +kernel) cr12_104 put_o rfl rfl (Nat.le_of_ble_eq_true rfl) (by show 1 ≤ 2; omega) rfl
theorem m12_32 : M12 32 [.val (.ref r)] st H Q = M12 33 [.val (.ref r)] (.ref r :: st) H Q := w_x (show decode kb12 32 = .ok (.aload_n 0, 1) from by decide +kernel) rfl
theorem cr12_107 : vR tables_1 dn y12 107 = some (true, y16, prog_1_method_8_code, 9, none, 0, 12) := pR_of (cR_of (by decide +kernel) rc_16 dn_16 dn_12 (sig := ⟨[], none⟩) (by decide +kernel) (by decide +kernel) rfl rfl) (by decide +kernel) (by decide +kernel)
theorem m12_33 : M12 33 ls [.ref (b + 1)] (put (b + 1) pre s A post) Q = M16 0 [.val (.ref (b + 1)), .unset, .unset, .unset, .unset, .unset, .unset, .unset, .unset] [] (put (b + 1) pre s A post) (fun v H1 => M12 36 ls (v.toList ++ []) H1 Q) := w_virt (as := []) (rest := []) (a := (b + 1)) (show decode kb12 33 = .ok (.invokevirtual 107, 3) from by decide +kernel) cr12_107 put_o rfl rfl (Nat.le_of_ble_eq_true rfl) (by show 1 ≤ 9; omega) rfl
theorem m12_36 : M12 36 [.val (.ref r)] st H Q = M12 37 [.val (.ref r)] (.ref r :: st) H Q := w_x (show decode kb12 36 = .ok (.aload_n 0, 1) from by decide +kernel) rfl
theorem m12_37 : M12 37 ls st H Q = M12 38 ls (.int 0 :: st) H Q := w_con (show decode kb12 37 = .ok (.iconst 0, 1) from by decide +kernel) rfl (by decide)
theorem pf12_67 : pfR tables_1 y12.cls y12.name 67 = some ("StreamSigScanner", 18, .int) := by decide +kernel
theorem m12_38 : M12 38 ls (.int v :: .ref (b + 1) :: st) (put (b + 1) pre s A post) Q = M12 41 ls st (put (b + 1) pre (ou s 6 v) A post) Q := w_put (show decode kb12 38 = .ok (.putfield 67, 3) from by decide +kernel) pf12_67 put_o (Nat.succ_le_succ (Nat.zero_le _)) (by show 18 < 29; omega) rfl put_s6
theorem m12_41 : M12 41 [.val (.ref r)] st H Q = M12 42 [.val (.ref r)] (.ref r :: st) H Q := w_x (show decode kb12 41 = .ok (.aload_n 0, 1) from by decide +kernel) rfl
theorem m12_42 : M12 42 ls st H Q = M12 43 ls (.int 1 :: st) H Q := w_con (show decode kb12 42 = .ok (.iconst 1, 1) from by decide +kernel) rfl (by decide)
theorem pf12_51 : pfR tables_1 y12.cls y12.name 51 = some ("StreamSigScanner", 13, .boolean) := by decide +kernel
theorem m12_43 : M12 43 ls (.int v :: .ref (b + 1) :: st) (put (b + 1) pre s A post) Q = M12 46 ls st (put (b + 1) pre (ou s 1 (nar .boolean v)) A post) Q := w_put (show decode kb12 43 = .ok (.putfield 51, 3) from by decide +kernel) pf12_51 put_o (Nat.succ_le_succ (Nat.zero_le _)) (by show 13 < 29; omega) rfl put_s1
theorem m12_46 : M12 46 ls st H Q = M12 47 ls (.int 0 :: st) H Q := w_con (show decode kb12 46 = .ok (.iconst 0, 1) from by decide +kernel) rfl (by decide)
theorem m12_47 : M12 47 ls (.int z :: st) H Q = Q (some (.int z)) H := w_iret (show decode kb12 47 = .ok (.ireturn, 1) from by decide +kernel) rfl
theorem m13_0 : M13 0 [.val (.ref r), l1] st H Q = M13 1 [.val (.ref r), l1] (.ref r :: st) H Q := w_x (show decode kb13 0 = .ok (.aload_n 0, 1) from by decide +kernel) rfl
theorem cr13_110 : vR tables_1 dn y13 110 = some (true, y14, prog_1_method_6_code, 2, none, 0, 6) := pR_of (cR_of (by decide +kernel) rc_14 dn_14 dn_13 (sig := ⟨[], none⟩) (by decide +kernel) (by decide +kernel) rfl rfl) (by decide +kernel) (by decide +kernel)
theorem m13_1 : M13 1 ls [.ref (b + 1)] (put (b + 1) pre s A post) Q = M14 0 [.val (.ref (b + 1)), .unset] [] (put (b + 1) pre s A post) (fun v H1 => M13 4 ls (v.toList ++ []) H1 Q) := w_virt (as := []) (rest := []) (a := (b + 1)) (show decode kb13 1 = .ok (.invokevirtual 110, 3) from by decide +kernel) cr13_110 put_o rfl rfl (Nat.le_of_ble_eq_true rfl) (by show 1 ≤ 2; omega) rfl
theorem m13_4 : M13 4 [.val (.ref r), l1] st H Q = M13 5 [.val (.ref r), l1] (.ref r :: st) H Q := w_x (show decode kb13 4 = .ok (.aload_n 0, 1) from by decide +kernel) rfl
theorem m13_5 : M13 5 ls st H Q = M13 6 ls (.int 1 :: st) H Q := w_con (show decode kb13 5 = .ok (.iconst 1, 1) from by decide +kernel) rfl (by decide)
theorem pf13_64 : pfR tables_1 y13.cls y13.name 64 = some ("StreamSigScanner", 17, .int) := by decide +kernel
theorem m13_6 : M13 6 ls (.int v :: .ref (b + 1) :: st) (put (b + 1) pre s A post) Q = M13 9 ls st (put (b + 1) pre (ou s 5 v) A post) Q := w_put (show decode kb13 6 = .ok (.putfield 64, 3) from by decide +kernel) pf13_64 put_o (Nat.succ_le_succ (Nat.zero_le _)) (by show 17 < 29; omega) rfl put_s5
theorem m13_9 : M13 9 ls st H Q = M13 10 ls (.int 0 :: st) H Q := w_con (show decode kb13 9 = .ok (.iconst 0, 1) from by decide +kernel) rfl (by decide)
theorem m13_10u : M13 10 [l0, .unset] ((.int v) :: st) H Q = M13 11 [l0, .val (.int v)] st H Q := w_st (i := 1) (p := isI) (show decode kb13 10 = .ok (.istore_n 1, 1) from by decide +kernel) rfl rfl rfl rfl rfl rfl
theorem m13_11 : M13 11 [l0, .val (.int v)] st H Q = M13 12 [l0, .val (.int v)] (.int v :: st) H Q := w_x (show decode kb13 11 = .ok (.iload_n 1, 1) from by decide +kernel) rfl
theorem m13_12 : M13 12 [.val (.ref r), l1] st H Q = M13 13 [.val (.ref r), l1] (.ref r :: st) H Q := w_x (show decode kb13 12 = .ok (.aload_n 0, 1) from by decide +kernel) rfl
theorem m13_13 : M13 13 ls (.ref (b + 1) :: st) (put (b + 1) pre s A post) Q = M13 16 ls (.int (s 2) :: st) (put (b + 1) pre s A post) Q := w_get (show decode kb13 13 = .ok (.getfield 55, 3) from by decide +kernel) gf_55 put_o rfl
theorem m13_16 : M13 16 ls (.int y :: .int x :: st) H Q = if x < y then M13 19 ls st H Q else M13 36 ls st H Q := w_icmpN (show decode kb13 16 = .ok (.if_icmp .ge 20, 3) from by decide +kernel) (i_ge x y) rfl
theorem m13_19 : M13 19 [l0, .val (.int v)] st H Q = M13 20 [l0, .val (.int v)] (.int v :: st) H Q := w_x (show decode kb13 19 = .ok (.iload_n 1, 1) from by decide +kernel) rfl
theorem m13_20 : M13 20 ls st H Q = M13 22 ls (.int 16 :: st) H Q := w_con (show decode kb13 20 = .ok (.bipush 16, 2) from by decide +kernel) rfl (by decide)
theorem m13_22 : M13 22 ls (.int y :: .int x :: st) H Q = if x < y then M13 25 ls st H Q else M13 36 ls st H Q := w_icmpN (show decode kb13 22 = .ok (.if_icmp .ge 14, 3) from by decide +kernel) (i_ge x y) rfl
theorem m13_25 : M13 25 [.val (.ref r), l1] st H Q = M13 26 [.val (.ref r), l1] (.ref r :: st) H Q := w_x (show decode kb13 25 = .ok (.aload_n 0, 1) from by decide +kernel) rfl
theorem m13_26 : M13 26 [l0, .val (.int v)] st H Q = M13 27 [l0, .val (.int v)] (.int v :: st) H Q := w_x (show decode kb13 26 = .ok (.iload_n 1, 1) from by decide +kernel) rfl
theorem cr13_113 : vR tables_1 dn y13 113 = some (true, y15, prog_1_method_7_code, 8, none, 1, 0) := pR_of (cR_of (by decide +kernel) rc_15 dn_15 dn_13 (sig := ⟨[.int], none⟩) (by decide +kernel) (by decide +kernel) rfl rfl) (by decide +kernel) (by decide +kernel)
theorem m13_27 (a0 : Int32) : M13 27 ls [.int a0, .ref (b + 1)] (put (b + 1) pre s A post) Q = M15 0 [.val (.ref (b + 1)), .val (.int a0), .unset, .unset, .unset, .unset, .unset, .unset] [] (put (b + 1) pre s A post) (fun v H1 => M13 30 ls (v.toList ++ []) H1 Q) := w_virt (as := [.int a0]) (rest := []) (a := (b + 1)) (show decode kb13 27 = .ok (.invokevirtual 113, 3) from by decide +kernel) cr13_113 put_o rfl rfl (Nat.le_of_ble_eq_true rfl) (by show 2 ≤ 8; omega) rfl
theorem m13_30 : M13 30 [l0, .val (.int v)] st H Q = M13 33 [l0, .val (.int (v + 1))] st H Q := w_iinc (show decode kb13 30 = .ok (.iinc 1 1, 3) from by decide +kernel) rfl (by decide) rfl
theorem m13_33 : M13 33 ls st H Q = M13 11 ls st H Q := w_x (show decode kb13 33 = .ok (.goto (-22), 3) from by decide +kernel) rfl
theorem m13_36 : M13 36 ls [] H Q = Q none H := w_vret (show decode kb13 36 = .ok (.return_, 1) from by decide +kernel) rfl
theorem m14_0 : M14 0 ls st H Q = M14 1 ls (.int 0 :: st) H Q := w_con (show decode kb14 0 = .ok (.iconst 0, 1) from by decide +kernel) rfl (by decide)
theorem m14_1u : M14 1 [l0, .unset] ((.int v) :: st) H Q = M14 2 [l0, .val (.int v)] st H Q := w_st (i := 1) (p := isI) (show decode kb14 1 = .ok (.istore_n 1, 1) from by decide +kernel) rfl rfl rfl rfl rfl rfl
theorem m14_2 : M14 2 [l0, .val (.int v)] st H Q = M14 3 [l0, .val (.int v)] (.int v :: st) H Q := w_x (show decode kb14 2 = .ok (.iload_n 1, 1) from by decide +kernel) rfl
theorem m14_3 : M14 3 ls st H Q = M14 6 ls (.int 16640 :: st) H Q := w_con (show decode kb14 3 = .ok (.sipush 16640, 3) from by decide +kernel) rfl (by decide)
theorem m14_6 : M14 6 ls (.int y :: .int x :: st) H Q = if x < y then M14 9 ls st H Q else M14 22 ls st H Q := w_icmpN (show decode kb14 6 = .ok (.if_icmp .ge 16, 3) from by decide +kernel) (i_ge x y) rfl
theorem m14_9 : M14 9 [.val (.ref r), l1] st H Q = M14 10 [.val (.ref r), l1] (.ref r :: st) H Q := w_x (show decode kb14 9 = .ok (.aload_n 0, 1) from by decide +kernel) rfl
theorem m14_10 : M14 10 ls (.ref (b + 1) :: st) (put (b + 1) pre s A post) Q = M14 13 ls (.ref ((b + 1) + 4) :: st) (put (b + 1) pre s A post) Q := w_get (show decode kb14 10 = .ok (.getfield 19, 3) from by decide +kernel) gf_19 put_o rfl
theorem m14_13 : M14 13 [l0, .val (.int v)] st H Q = M14 14 [l0, .val (.int v)] (.int v :: st) H Q := w_x (show decode kb14 13 = .ok (.iload_n 1, 1) from by decide +kernel) rfl
theorem m14_14 : M14 14 ls st H Q = M14 15 ls (.int 0 :: st) H Q := w_con (show decode kb14 14 = .ok (.iconst 0, 1) from by decide +kernel) rfl (by decide)
theorem m14_15  : M14 15 ls (.int v :: .int j :: .ref ((b + 1) + 4) :: st) (put (b + 1) pre s A post) Q = (inB j (A 3) ∧ M14 16 ls st (put (b + 1) pre s (ou A 3 (setA (A 3) j v)) post) Q) := w_ist (show decode kb14 15 = .ok (.iastore, 1) from by decide +kernel) rfl put_a3 (by omega) rfl put_w3
theorem m14_16 : M14 16 [l0, .val (.int v)] st H Q = M14 19 [l0, .val (.int (v + 1))] st H Q := w_iinc (show decode kb14 16 = .ok (.iinc 1 1, 3) from by decide +kernel) rfl (by decide) rfl
theorem m14_19 : M14 19 ls st H Q = M14 2 ls st H Q := w_x (show decode kb14 19 = .ok (.goto (-17), 3) from by decide +kernel) rfl
theorem m14_22 : M14 22 ls st H Q = M14 23 ls (.int 0 :: st) H Q := w_con (show decode kb14 22 = .ok (.iconst 0, 1) from by decide +kernel) rfl (by decide)
theorem m14_23i : M14 23 [l0, .val (.int z)] ((.int v) :: st) H Q = M14 24 [l0, .val (.int v)] st H Q := w_st (i := 1) (p := isI) (show decode kb14 23 = .ok (.istore_n 1, 1) from by decide +kernel) rfl rfl rfl rfl rfl rfl
theorem m14_24 : M14 24 [l0, .val (.int v)] st H Q = M14 25 [l0, .val (.int v)] (.int v :: st) H Q := w_x (show decode kb14 24 = .ok (.iload_n 1, 1) from by decide +kernel) rfl
theorem m14_25 : M14 25 ls st H Q = M14 27 ls (.int 65 :: st) H Q := w_con (show decode kb14 25 = .ok (.bipush 65, 2) from by decide +kernel) rfl (by decide)
theorem m14_27 : M14 27 ls (.int y :: .int x :: st) H Q = if x < y then M14 30 ls st H Q else M14 57 ls st H Q := w_icmpN (show decode kb14 27 = .ok (.if_icmp .ge 30, 3) from by decide +kernel) (i_ge x y) rfl
theorem m14_30 : M14 30 [.val (.ref r), l1] st H Q = M14 31 [.val (.ref r), l1] (.ref r :: st) H Q := w_x (show decode kb14 30 = .ok (.aload_n 0, 1) from by decide +kernel) rfl
theorem m14_31 : M14 31 ls (.ref (b + 1) :: st) (put (b + 1) pre s A post) Q = M14 34 ls (.ref ((b + 1) + 5) :: st) (put (b + 1) pre s A post) Q := w_get (show decode kb14 31 = .ok (.getfield 22, 3) from by decide +kernel) gf_22 put_o rfl
theorem m14_34 : M14 34 [l0, .val (.int v)] st H Q = M14 35 [l0, .val (.int v)] (.int v :: st) H Q := w_x (show decode kb14 34 = .ok (.iload_n 1, 1) from by decide +kernel) rfl
theorem m14_35 : M14 35 ls st H Q = M14 36 ls (.int 0 :: st) H Q := w_con (show decode kb14 35 = .ok (.iconst 0, 1) from by decide +kernel) rfl (by decide)
theorem m14_36  : M14 36 ls (.int v :: .int j :: .ref ((b + 1) + 5) :: st) (put (b + 1) pre s A post) Q = (inB j (A 4) ∧ M14 37 ls st (put (b + 1) pre s (ou A 4 (setA (A 4) j v)) post) Q) := w_ist (show decode kb14 36 = .ok (.iastore, 1) from by decide +kernel) rfl put_a4 (by omega) rfl put_w4
theorem m14_37 : M14 37 [.val (.ref r), l1] st H Q = M14 38 [.val (.ref r), l1] (.ref r :: st) H Q := w_x (show decode kb14 37 = .ok (.aload_n 0, 1) from by decide +kernel) rfl
theorem m14_38 : M14 38 ls (.ref (b + 1) :: st) (put (b + 1) pre s A post) Q = M14 41 ls (.ref ((b + 1) + 6) :: st) (put (b + 1) pre s A post) Q := w_get (show decode kb14 38 = .ok (.getfield 25, 3) from by decide +kernel) gf_25 put_o rfl
theorem m14_41 : M14 41 [l0, .val (.int v)] st H Q = M14 42 [l0, .val (.int v)] (.int v :: st) H Q := w_x (show decode kb14 41 = .ok (.iload_n 1, 1) from by decide +kernel) rfl
theorem m14_42 : M14 42 ls st H Q = M14 43 ls (.int 0 :: st) H Q := w_con (show decode kb14 42 = .ok (.iconst 0, 1) from by decide +kernel) rfl (by decide)
theorem m14_43  : M14 43 ls (.int v :: .int j :: .ref ((b + 1) + 6) :: st) (put (b + 1) pre s A post) Q = (inB j (A 5) ∧ M14 44 ls st (put (b + 1) pre s (ou A 5 (setA (A 5) j v)) post) Q) := w_ist (show decode kb14 43 = .ok (.iastore, 1) from by decide +kernel) rfl put_a5 (by omega) rfl put_w5
theorem m14_44 : M14 44 [.val (.ref r), l1] st H Q = M14 45 [.val (.ref r), l1] (.ref r :: st) H Q := w_x (show decode kb14 44 = .ok (.aload_n 0, 1) from by decide +kernel) rfl
theorem m14_45 : M14 45 ls (.ref (b + 1) :: st) (put (b + 1) pre s A post) Q = M14 48 ls (.ref ((b + 1) + 7) :: st) (put (b + 1) pre s A post) Q := w_get (show decode kb14 45 = .ok (.getfield 28, 3) from by decide +kernel) gf_28 put_o rfl
theorem m14_48 : M14 48 [l0, .val (.int v)] st H Q = M14 49 [l0, .val (.int v)] (.int v :: st) H Q := w_x (show decode kb14 48 = .ok (.iload_n 1, 1) from by decide +kernel) rfl
theorem m14_49 : M14 49 ls st H Q = M14 50 ls (.int 0 :: st) H Q := w_con (show decode kb14 49 = .ok (.iconst 0, 1) from by decide +kernel) rfl (by decide)
theorem m14_50  : M14 50 ls (.int v :: .int j :: .ref ((b + 1) + 7) :: st) (put (b + 1) pre s A post) Q = (inB j (A 6) ∧ M14 51 ls st (put (b + 1) pre s (ou A 6 (setA (A 6) j v)) post) Q) := w_ist (show decode kb14 50 = .ok (.iastore, 1) from by decide +kernel) rfl put_a6 (by omega) rfl put_w6
theorem m14_51 : M14 51 [l0, .val (.int v)] st H Q = M14 54 [l0, .val (.int (v + 1))] st H Q := w_iinc (show decode kb14 51 = .ok (.iinc 1 1, 3) from by decide +kernel) rfl (by decide) rfl
theorem m14_54 : M14 54 ls st H Q = M14 24 ls st H Q := w_x (show decode kb14 54 = .ok (.goto (-30), 3) from by decide +kernel) rfl
theorem m14_57 : M14 57 ls [] H Q = Q none H := w_vret (show decode kb14 57 = .ok (.return_, 1) from by decide +kernel) rfl
theorem m15_0 : M15 0 [l0, .val (.int v), l2, l3, l4, l5, l6, l7] st H Q = M15 1 [l0, .val (.int v), l2, l3, l4, l5, l6, l7] (.int v :: st) H Q := w_x (show decode kb15 0 = .ok (.iload_n 1, 1) from by decide +kernel) rfl
theorem m15_1 : M15 1 ls (.int x :: st) H Q = if x < 0 then M15 10 ls st H Q else M15 4 ls st H Q := w_if (show decode kb15 1 = .ok (.ifCond .lt 9, 3) from by decide +kernel) (z_lt x) rfl
theorem m15_4 : M15 4 [l0, .val (.int v), l2, l3, l4, l5, l6, l7] st H Q = M15 5 [l0, .val (.int v), l2, l3, l4, l5, l6, l7] (.int v :: st) H Q := w_x (show decode kb15 4 = .ok (.iload_n 1, 1) from by decide +kernel) rfl
theorem m15_5 : M15 5 ls st H Q = M15 7 ls (.int 16 :: st) H Q := w_con (show decode kb15 5 = .ok (.bipush 16, 2) from by decide +kernel) rfl (by decide)
theorem m15_7 : M15 7 ls (.int y :: .int x :: st) H Q = if x < y then M15 11 ls st H Q else M15 10 ls st H Q := w_icmp (show decode kb15 7 = .ok (.if_icmp .lt 4, 3) from by decide +kernel) (i_lt x y) rfl
theorem m15_10 : M15 10 ls [] H Q = Q none H := w_vret (show decode kb15 10 = .ok (.return_, 1) from by decide +kernel) rfl
theorem m15_11 : M15 11 [.val (.ref r), l1, l2, l3, l4, l5, l6, l7] st H Q = M15 12 [.val (.ref r), l1, l2, l3, l4, l5, l6, l7] (.ref r :: st) H Q := w_x (show decode kb15 11 = .ok (.aload_n 0, 1) from by decide +kernel) rfl
theorem m15_12 : M15 12 ls (.ref (b + 1) :: st) (put (b + 1) pre s A post) Q = M15 15 ls (.ref ((b + 1) + 2) :: st) (put (b + 1) pre s A post) Q := w_get (show decode kb15 12 = .ok (.getfield 13, 3) from by decide +kernel) gf_13 put_o rfl
theorem m15_15 : M15 15 [l0, .val (.int v), l2, l3, l4, l5, l6, l7] st H Q = M15 16 [l0, .val (.int v), l2, l3, l4, l5, l6, l7] (.int v :: st) H Q := w_x (show decode kb15 15 = .ok (.iload_n 1, 1) from by decide +kernel) rfl
theorem m15_16  : M15 16 ls (.int j :: .ref ((b + 1) + 2) :: st) (put (b + 1) pre s A post) Q = (inB j (A 1) ∧ M15 17 ls (.int (getA (A 1) j) :: st) (put (b + 1) pre s A post) Q) := w_ild (show decode kb15 16 = .ok (.iaload, 1) from by decide +kernel) rfl put_a1
theorem m15_17u : M15 17 [l0, l1, .unset, l3, l4, l5, l6, l7] ((.int v) :: st) H Q = M15 18 [l0, l1, .val (.int v), l3, l4, l5, l6, l7] st H Q := w_st (i := 2) (p := isI) (show decode kb15 17 = .ok (.istore_n 2, 1) from by decide +kernel) rfl rfl rfl rfl rfl rfl
theorem m15_18 : M15 18 [.val (.ref r), l1, l2, l3, l4, l5, l6, l7] st H Q = M15 19 [.val (.ref r), l1, l2, l3, l4, l5, l6, l7] (.ref r :: st) H Q := w_x (show decode kb15 18 = .ok (.aload_n 0, 1) from by decide +kernel) rfl
theorem m15_19 : M15 19 ls (.ref (b + 1) :: st) (put (b + 1) pre s A post) Q = M15 22 ls (.ref ((b + 1) + 3) :: st) (put (b + 1) pre s A post) Q := w_get (show decode kb15 19 = .ok (.getfield 16, 3) from by decide +kernel) gf_16 put_o rfl
theorem m15_22 : M15 22 [l0, .val (.int v), l2, l3, l4, l5, l6, l7] st H Q = M15 23 [l0, .val (.int v), l2, l3, l4, l5, l6, l7] (.int v :: st) H Q := w_x (show decode kb15 22 = .ok (.iload_n 1, 1) from by decide +kernel) rfl
theorem m15_23  : M15 23 ls (.int j :: .ref ((b + 1) + 3) :: st) (put (b + 1) pre s A post) Q = (inB j (A 2) ∧ M15 24 ls (.int (getA (A 2) j) :: st) (put (b + 1) pre s A post) Q) := w_ild (show decode kb15 23 = .ok (.iaload, 1) from by decide +kernel) rfl put_a2
theorem m15_24u : M15 24 [l0, l1, l2, .unset, l4, l5, l6, l7] ((.int v) :: st) H Q = M15 25 [l0, l1, l2, .val (.int v), l4, l5, l6, l7] st H Q := w_st (i := 3) (p := isI) (show decode kb15 24 = .ok (.istore_n 3, 1) from by decide +kernel) rfl rfl rfl rfl rfl rfl
theorem m15_25 : M15 25 ls st H Q = M15 26 ls (.int 0 :: st) H Q := w_con (show decode kb15 25 = .ok (.iconst 0, 1) from by decide +kernel) rfl (by decide)
theorem m15_26u : M15 26 [l0, l1, l2, l3, .unset, l5, l6, l7] ((.int v) :: st) H Q = M15 28 [l0, l1, l2, l3, .val (.int v), l5, l6, l7] st H Q := w_st (i := 4) (p := isI) (show decode kb15 26 = .ok (.istore 4, 2) from by decide +kernel) rfl rfl rfl rfl rfl rfl
theorem m15_28 : M15 28 ls st H Q = M15 29 ls (.int 0 :: st) H Q := w_con (show decode kb15 28 = .ok (.iconst 0, 1) from by decide +kernel) rfl (by decide)
theorem m15_29u : M15 29 [l0, l1, l2, l3, l4, .unset, l6, l7] ((.int v) :: st) H Q = M15 31 [l0, l1, l2, l3, l4, .val (.int v), l6, l7] st H Q := w_st (i := 5) (p := isI) (show decode kb15 29 = .ok (.istore 5, 2) from by decide +kernel) rfl rfl rfl rfl rfl rfl
theorem m15_31 : M15 31 [l0, l1, l2, l3, l4, .val (.int v), l6, l7] st H Q = M15 33 [l0, l1, l2, l3, l4, .val (.int v), l6, l7] (.int v :: st) H Q := w_x (show decode kb15 31 = .ok (.iload 5, 2) from by decide +kernel) rfl
theorem m15_33 : M15 33 [l0, l1, l2, .val (.int v), l4, l5, l6, l7] st H Q = M15 34 [l0, l1, l2, .val (.int v), l4, l5, l6, l7] (.int v :: st) H Q := w_x (show decode kb15 33 = .ok (.iload_n 3, 1) from by decide +kernel) rfl
theorem m15_34 : M15 34 ls (.int y :: .int x :: st) H Q = if x < y then M15 37 ls st H Q else M15 149 ls st H Q := w_icmpN (show decode kb15 34 = .ok (.if_icmp .ge 115, 3) from by decide +kernel) (i_ge x y) rfl
theorem m15_37 : M15 37 [l0, l1, l2, l3, l4, .val (.int v), l6, l7] st H Q = M15 39 [l0, l1, l2, l3, l4, .val (.int v), l6, l7] (.int v :: st) H Q := w_x (show decode kb15 37 = .ok (.iload 5, 2) from by decide +kernel) rfl
theorem m15_39 : M15 39 ls st H Q = M15 41 ls (.int 16 :: st) H Q := w_con (show decode kb15 39 = .ok (.bipush 16, 2) from by decide +kernel) rfl (by decide)
theorem m15_41 : M15 41 ls (.int y :: .int x :: st) H Q = if x < y then M15 44 ls st H Q else M15 149 ls st H Q := w_icmpN (show decode kb15 41 = .ok (.if_icmp .ge 108, 3) from by decide +kernel) (i_ge x y) rfl
theorem m15_44 : M15 44 [l0, l1, .val (.int v), l3, l4, l5, l6, l7] st H Q = M15 45 [l0, l1, .val (.int v), l3, l4, l5, l6, l7] (.int v :: st) H Q := w_x (show decode kb15 44 = .ok (.iload_n 2, 1) from by decide +kernel) rfl
theorem m15_45 : M15 45 [l0, l1, l2, l3, l4, .val (.int v), l6, l7] st H Q = M15 47 [l0, l1, l2, l3, l4, .val (.int v), l6, l7] (.int v :: st) H Q := w_x (show decode kb15 45 = .ok (.iload 5, 2) from by decide +kernel) rfl
theorem m15_47 : M15 47 ls (.int y :: .int x :: st) H Q = M15 48 ls (.int (x + y) :: st) H Q := w_x (show decode kb15 47 = .ok (.iadd, 1) from by decide +kernel) rfl
theorem m15_48u : M15 48 [l0, l1, l2, l3, l4, l5, .unset, l7] ((.int v) :: st) H Q = M15 50 [l0, l1, l2, l3, l4, l5, .val (.int v), l7] st H Q := w_st (i := 6) (p := isI) (show decode kb15 48 = .ok (.istore 6, 2) from by decide +kernel) rfl rfl rfl rfl rfl rfl
theorem m15_48i : M15 48 [l0, l1, l2, l3, l4, l5, .val (.int z), l7] ((.int v) :: st) H Q = M15 50 [l0, l1, l2, l3, l4, l5, .val (.int v), l7] st H Q := w_st (i := 6) (p := isI) (show decode kb15 48 = .ok (.istore 6, 2) from by decide +kernel) rfl rfl rfl rfl rfl rfl
theorem m15_48r : M15 48 [l0, l1, l2, l3, l4, l5, .val (.ref q), l7] ((.int v) :: st) H Q = M15 50 [l0, l1, l2, l3, l4, l5, .val (.int v), l7] st H Q := w_st (i := 6) (p := isI) (show decode kb15 48 = .ok (.istore 6, 2) from by decide +kernel) rfl rfl rfl rfl rfl rfl
theorem m15_48g (h : okS l6) : M15 48 [l0, l1, l2, l3, l4, l5, l6, l7] ((.int v) :: st) H Q = M15 50 [l0, l1, l2, l3, l4, l5, .val (.int v), l7] st H Q := by rcases h with rfl | ⟨z, rfl⟩ <;> first | exact m15_48u | exact m15_48i
theorem m15_50 : M15 50 [l0, l1, l2, l3, l4, l5, .val (.int v), l7] st H Q = M15 52 [l0, l1, l2, l3, l4, l5, .val (.int v), l7] (.int v :: st) H Q := w_x (show decode kb15 50 = .ok (.iload 6, 2) from by decide +kernel) rfl
theorem m15_52 : M15 52 ls (.int x :: st) H Q = if x < 0 then M15 62 ls st H Q else M15 55 ls st H Q := w_if (show decode kb15 52 = .ok (.ifCond .lt 10, 3) from by decide +kernel) (z_lt x) rfl
theorem m15_55 : M15 55 [l0, l1, l2, l3, l4, l5, .val (.int v), l7] st H Q = M15 57 [l0, l1, l2, l3, l4, l5, .val (.int v), l7] (.int v :: st) H Q := w_x (show decode kb15 55 = .ok (.iload 6, 2) from by decide +kernel) rfl
theorem m15_57 : M15 57 ls st H Q = M15 59 ls (.int 64 :: st) H Q := w_con (show decode kb15 57 = .ok (.bipush 64, 2) from by decide +kernel) rfl (by decide)
theorem m15_59 : M15 59 ls (.int y :: .int x :: st) H Q = if x < y then M15 63 ls st H Q else M15 62 ls st H Q := w_icmp (show decode kb15 59 = .ok (.if_icmp .lt 4, 3) from by decide +kernel) (i_lt x y) rfl
theorem m15_62 : M15 62 ls [] H Q = Q none H := w_vret (show decode kb15 62 = .ok (.return_, 1) from by decide +kernel) rfl
theorem m15_63 : M15 63 [l0, l1, l2, l3, .val (.int v), l5, l6, l7] st H Q = M15 65 [l0, l1, l2, l3, .val (.int v), l5, l6, l7] (.int v :: st) H Q := w_x (show decode kb15 63 = .ok (.iload 4, 2) from by decide +kernel) rfl
theorem m15_65 : M15 65 ls st H Q = M15 68 ls (.int 256 :: st) H Q := w_con (show decode kb15 65 = .ok (.sipush 256, 3) from by decide +kernel) rfl (by decide)
theorem m15_68 : M15 68 ls (.int y :: .int x :: st) H Q = M15 69 ls (.int (x * y) :: st) H Q := w_x (show decode kb15 68 = .ok (.imul, 1) from by decide +kernel) rfl
theorem m15_69 : M15 69 [.val (.ref r), l1, l2, l3, l4, l5, l6, l7] st H Q = M15 70 [.val (.ref r), l1, l2, l3, l4, l5, l6, l7] (.ref r :: st) H Q := w_x (show decode kb15 69 = .ok (.aload_n 0, 1) from by decide +kernel) rfl
theorem m15_70 : M15 70 ls (.ref (b + 1) :: st) (put (b + 1) pre s A post) Q = M15 73 ls (.ref ((b + 1) + 1) :: st) (put (b + 1) pre s A post) Q := w_get (show decode kb15 70 = .ok (.getfield 7, 3) from by decide +kernel) gf_7 put_o rfl
theorem m15_73 : M15 73 [l0, l1, l2, l3, l4, l5, .val (.int v), l7] st H Q = M15 75 [l0, l1, l2, l3, l4, l5, .val (.int v), l7] (.int v :: st) H Q := w_x (show decode kb15 73 = .ok (.iload 6, 2) from by decide +kernel) rfl
theorem m15_75  : M15 75 ls (.int j :: .ref ((b + 1) + 1) :: st) (put (b + 1) pre s A post) Q = (inB j (A 0) ∧ M15 76 ls (.int (getA (A 0) j) :: st) (put (b + 1) pre s A post) Q) := w_ild (show decode kb15 75 = .ok (.iaload, 1) from by decide +kernel) rfl put_a0
theorem m15_76 : M15 76 ls (.int y :: .int x :: st) H Q = M15 77 ls (.int (x + y) :: st) H Q := w_x (show decode kb15 76 = .ok (.iadd, 1) from by decide +kernel) rfl
theorem m15_77u : M15 77 [l0, l1, l2, l3, l4, l5, l6, .unset] ((.int v) :: st) H Q = M15 79 [l0, l1, l2, l3, l4, l5, l6, .val (.int v)] st H Q := w_st (i := 7) (p := isI) (show decode kb15 77 = .ok (.istore 7, 2) from by decide +kernel) rfl rfl rfl rfl rfl rfl
theorem m15_77i : M15 77 [l0, l1, l2, l3, l4, l5, l6, .val (.int z)] ((.int v) :: st) H Q = M15 79 [l0, l1, l2, l3, l4, l5, l6, .val (.int v)] st H Q := w_st (i := 7) (p := isI) (show decode kb15 77 = .ok (.istore 7, 2) from by decide +kernel) rfl rfl rfl rfl rfl rfl
theorem m15_77r : M15 77 [l0, l1, l2, l3, l4, l5, l6, .val (.ref q)] ((.int v) :: st) H Q = M15 79 [l0, l1, l2, l3, l4, l5, l6, .val (.int v)] st H Q := w_st (i := 7) (p := isI) (show decode kb15 77 = .ok (.istore 7, 2) from by decide +kernel) rfl rfl rfl rfl rfl rfl
theorem m15_77g (h : okS l7) : M15 77 [l0, l1, l2, l3, l4, l5, l6, l7] ((.int v) :: st) H Q = M15 79 [l0, l1, l2, l3, l4, l5, l6, .val (.int v)] st H Q := by rcases h with rfl | ⟨z, rfl⟩ <;> first | exact m15_77u | exact m15_77i
theorem m15_79 : M15 79 [l0, l1, l2, l3, l4, l5, l6, .val (.int v)] st H Q = M15 81 [l0, l1, l2, l3, l4, l5, l6, .val (.int v)] (.int v :: st) H Q := w_x (show decode kb15 79 = .ok (.iload 7, 2) from by decide +kernel) rfl
theorem m15_81 : M15 81 ls (.int x :: st) H Q = if x < 0 then M15 92 ls st H Q else M15 84 ls st H Q := w_if (show decode kb15 81 = .ok (.ifCond .lt 11, 3) from by decide +kernel) (z_lt x) rfl
theorem m15_84 : M15 84 [l0, l1, l2, l3, l4, l5, l6, .val (.int v)] st H Q = M15 86 [l0, l1, l2, l3, l4, l5, l6, .val (.int v)] (.int v :: st) H Q := w_x (show decode kb15 84 = .ok (.iload 7, 2) from by decide +kernel) rfl
theorem m15_86 : M15 86 ls st H Q = M15 89 ls (.int 16640 :: st) H Q := w_con (show decode kb15 86 = .ok (.sipush 16640, 3) from by decide +kernel) rfl (by decide)
theorem m15_89 : M15 89 ls (.int y :: .int x :: st) H Q = if x < y then M15 93 ls st H Q else M15 92 ls st H Q := w_icmp (show decode kb15 89 = .ok (.if_icmp .lt 4, 3) from by decide +kernel) (i_lt x y) rfl
theorem m15_92 : M15 92 ls [] H Q = Q none H := w_vret (show decode kb15 92 = .ok (.return_, 1) from by decide +kernel) rfl
theorem m15_93 : M15 93 [.val (.ref r), l1, l2, l3, l4, l5, l6, l7] st H Q = M15 94 [.val (.ref r), l1, l2, l3, l4, l5, l6, l7] (.ref r :: st) H Q := w_x (show decode kb15 93 = .ok (.aload_n 0, 1) from by decide +kernel) rfl
theorem m15_94 : M15 94 ls (.ref (b + 1) :: st) (put (b + 1) pre s A post) Q = M15 97 ls (.ref ((b + 1) + 4) :: st) (put (b + 1) pre s A post) Q := w_get (show decode kb15 94 = .ok (.getfield 19, 3) from by decide +kernel) gf_19 put_o rfl
theorem m15_97 : M15 97 [l0, l1, l2, l3, l4, l5, l6, .val (.int v)] st H Q = M15 99 [l0, l1, l2, l3, l4, l5, l6, .val (.int v)] (.int v :: st) H Q := w_x (show decode kb15 97 = .ok (.iload 7, 2) from by decide +kernel) rfl
theorem m15_99  : M15 99 ls (.int j :: .ref ((b + 1) + 4) :: st) (put (b + 1) pre s A post) Q = (inB j (A 3) ∧ M15 100 ls (.int (getA (A 3) j) :: st) (put (b + 1) pre s A post) Q) := w_ild (show decode kb15 99 = .ok (.iaload, 1) from by decide +kernel) rfl put_a3
theorem m15_100 : M15 100 ls (.int x :: st) H Q = if x = 0 then M15 103 ls st H Q else M15 134 ls st H Q := w_ifN (show decode kb15 100 = .ok (.ifCond .ne 34, 3) from by decide +kernel) (z_ne x) rfl
theorem m15_103 : M15 103 [.val (.ref r), l1, l2, l3, l4, l5, l6, l7] st H Q = M15 104 [.val (.ref r), l1, l2, l3, l4, l5, l6, l7] (.ref r :: st) H Q := w_x (show decode kb15 103 = .ok (.aload_n 0, 1) from by decide +kernel) rfl
theorem m15_104 : M15 104 ls (.ref (b + 1) :: st) (put (b + 1) pre s A post) Q = M15 107 ls (.int (s 5) :: st) (put (b + 1) pre s A post) Q := w_get (show decode kb15 104 = .ok (.getfield 64, 3) from by decide +kernel) gf_64 put_o rfl
theorem m15_107 : M15 107 ls st H Q = M15 109 ls (.int 65 :: st) H Q := w_con (show decode kb15 107 = .ok (.bipush 65, 2) from by decide +kernel) rfl (by decide)
theorem m15_109 : M15 109 ls (.int y :: .int x :: st) H Q = if x < y then M15 113 ls st H Q else M15 112 ls st H Q := w_icmp (show decode kb15 109 = .ok (.if_icmp .lt 4, 3) from by decide +kernel) (i_lt x y) rfl
theorem m15_112 : M15 112 ls [] H Q = Q none H := w_vret (show decode kb15 112 = .ok (.return_, 1) from by decide +kernel) rfl
theorem m15_113 : M15 113 [.val (.ref r), l1, l2, l3, l4, l5, l6, l7] st H Q = M15 114 [.val (.ref r), l1, l2, l3, l4, l5, l6, l7] (.ref r :: st) H Q := w_x (show decode kb15 113 = .ok (.aload_n 0, 1) from by decide +kernel) rfl
theorem m15_114 : M15 114 ls (.ref (b + 1) :: st) (put (b + 1) pre s A post) Q = M15 117 ls (.ref ((b + 1) + 4) :: st) (put (b + 1) pre s A post) Q := w_get (show decode kb15 114 = .ok (.getfield 19, 3) from by decide +kernel) gf_19 put_o rfl
theorem m15_117 : M15 117 [l0, l1, l2, l3, l4, l5, l6, .val (.int v)] st H Q = M15 119 [l0, l1, l2, l3, l4, l5, l6, .val (.int v)] (.int v :: st) H Q := w_x (show decode kb15 117 = .ok (.iload 7, 2) from by decide +kernel) rfl
theorem m15_119 : M15 119 [.val (.ref r), l1, l2, l3, l4, l5, l6, l7] st H Q = M15 120 [.val (.ref r), l1, l2, l3, l4, l5, l6, l7] (.ref r :: st) H Q := w_x (show decode kb15 119 = .ok (.aload_n 0, 1) from by decide +kernel) rfl
theorem m15_120 : M15 120 ls (.ref (b + 1) :: st) (put (b + 1) pre s A post) Q = M15 123 ls (.int (s 5) :: st) (put (b + 1) pre s A post) Q := w_get (show decode kb15 120 = .ok (.getfield 64, 3) from by decide +kernel) gf_64 put_o rfl
theorem m15_123  : M15 123 ls (.int v :: .int j :: .ref ((b + 1) + 4) :: st) (put (b + 1) pre s A post) Q = (inB j (A 3) ∧ M15 124 ls st (put (b + 1) pre s (ou A 3 (setA (A 3) j v)) post) Q) := w_ist (show decode kb15 123 = .ok (.iastore, 1) from by decide +kernel) rfl put_a3 (by omega) rfl put_w3
theorem m15_124 : M15 124 [.val (.ref r), l1, l2, l3, l4, l5, l6, l7] st H Q = M15 125 [.val (.ref r), l1, l2, l3, l4, l5, l6, l7] (.ref r :: st) H Q := w_x (show decode kb15 124 = .ok (.aload_n 0, 1) from by decide +kernel) rfl
theorem m15_125 : M15 125 ls ((.ref r) :: st) H Q = M15 126 ls ((.ref r) :: (.ref r) :: st) H Q := w_x (show decode kb15 125 = .ok (.dup, 1) from by decide +kernel) rfl
theorem m15_126 : M15 126 ls (.ref (b + 1) :: st) (put (b + 1) pre s A post) Q = M15 129 ls (.int (s 5) :: st) (put (b + 1) pre s A post) Q := w_get (show decode kb15 126 = .ok (.getfield 64, 3) from by decide +kernel) gf_64 put_o rfl
theorem m15_129 : M15 129 ls st H Q = M15 130 ls (.int 1 :: st) H Q := w_con (show decode kb15 129 = .ok (.iconst 1, 1) from by decide +kernel) rfl (by decide)
theorem m15_130 : M15 130 ls (.int y :: .int x :: st) H Q = M15 131 ls (.int (x + y) :: st) H Q := w_x (show decode kb15 130 = .ok (.iadd, 1) from by decide +kernel) rfl
theorem pf15_64 : pfR tables_1 y15.cls y15.name 64 = some ("StreamSigScanner", 17, .int) := by decide +kernel
theorem m15_131 : M15 131 ls (.int v :: .ref (b + 1) :: st) (put (b + 1) pre s A post) Q = M15 134 ls st (put (b + 1) pre (ou s 5 v) A post) Q := w_put (show decode kb15 131 = .ok (.putfield 64, 3) from by decide +kernel) pf15_64 put_o (Nat.succ_le_succ (Nat.zero_le _)) (by show 17 < 29; omega) rfl put_s5
theorem m15_134 : M15 134 [.val (.ref r), l1, l2, l3, l4, l5, l6, l7] st H Q = M15 135 [.val (.ref r), l1, l2, l3, l4, l5, l6, l7] (.ref r :: st) H Q := w_x (show decode kb15 134 = .ok (.aload_n 0, 1) from by decide +kernel) rfl
theorem m15_135 : M15 135 ls (.ref (b + 1) :: st) (put (b + 1) pre s A post) Q = M15 138 ls (.ref ((b + 1) + 4) :: st) (put (b + 1) pre s A post) Q := w_get (show decode kb15 135 = .ok (.getfield 19, 3) from by decide +kernel) gf_19 put_o rfl
theorem m15_138 : M15 138 [l0, l1, l2, l3, l4, l5, l6, .val (.int v)] st H Q = M15 140 [l0, l1, l2, l3, l4, l5, l6, .val (.int v)] (.int v :: st) H Q := w_x (show decode kb15 138 = .ok (.iload 7, 2) from by decide +kernel) rfl
theorem m15_140  : M15 140 ls (.int j :: .ref ((b + 1) + 4) :: st) (put (b + 1) pre s A post) Q = (inB j (A 3) ∧ M15 141 ls (.int (getA (A 3) j) :: st) (put (b + 1) pre s A post) Q) := w_ild (show decode kb15 140 = .ok (.iaload, 1) from by decide +kernel) rfl put_a3
theorem m15_141i : M15 141 [l0, l1, l2, l3, .val (.int z), l5, l6, l7] ((.int v) :: st) H Q = M15 143 [l0, l1, l2, l3, .val (.int v), l5, l6, l7] st H Q := w_st (i := 4) (p := isI) (show decode kb15 141 = .ok (.istore 4, 2) from by decide +kernel) rfl rfl rfl rfl rfl rfl
theorem m15_143 : M15 143 [l0, l1, l2, l3, l4, .val (.int v), l6, l7] st H Q = M15 146 [l0, l1, l2, l3, l4, .val (.int (v + 1)), l6, l7] st H Q := w_iinc (show decode kb15 143 = .ok (.iinc 5 1, 3) from by decide +kernel) rfl (by decide) rfl
theorem m15_146 : M15 146 ls st H Q = M15 31 ls st H Q := w_x (show decode kb15 146 = .ok (.goto (-115), 3) from by decide +kernel) rfl
theorem m15_149 : M15 149 [l0, l1, l2, l3, .val (.int v), l5, l6, l7] st H Q = M15 151 [l0, l1, l2, l3, .val (.int v), l5, l6, l7] (.int v :: st) H Q := w_x (show decode kb15 149 = .ok (.iload 4, 2) from by decide +kernel) rfl
theorem m15_151 : M15 151 ls (.int x :: st) H Q = if x < 0 then M15 174 ls st H Q else M15 154 ls st H Q := w_if (show decode kb15 151 = .ok (.ifCond .lt 23, 3) from by decide +kernel) (z_lt x) rfl
theorem m15_154 : M15 154 [l0, l1, l2, l3, .val (.int v), l5, l6, l7] st H Q = M15 156 [l0, l1, l2, l3, .val (.int v), l5, l6, l7] (.int v :: st) H Q := w_x (show decode kb15 154 = .ok (.iload 4, 2) from by decide +kernel) rfl
theorem m15_156 : M15 156 ls st H Q = M15 158 ls (.int 65 :: st) H Q := w_con (show decode kb15 156 = .ok (.bipush 65, 2) from by decide +kernel) rfl (by decide)
theorem m15_158 : M15 158 ls (.int y :: .int x :: st) H Q = if x < y then M15 161 ls st H Q else M15 174 ls st H Q := w_icmpN (show decode kb15 158 = .ok (.if_icmp .ge 16, 3) from by decide +kernel) (i_ge x y) rfl
theorem m15_161 : M15 161 [.val (.ref r), l1, l2, l3, l4, l5, l6, l7] st H Q = M15 162 [.val (.ref r), l1, l2, l3, l4, l5, l6, l7] (.ref r :: st) H Q := w_x (show decode kb15 161 = .ok (.aload_n 0, 1) from by decide +kernel) rfl
theorem m15_162 : M15 162 ls (.ref (b + 1) :: st) (put (b + 1) pre s A post) Q = M15 165 ls (.ref ((b + 1) + 6) :: st) (put (b + 1) pre s A post) Q := w_get (show decode kb15 162 = .ok (.getfield 25, 3) from by decide +kernel) gf_25 put_o rfl
theorem m15_165 : M15 165 [l0, l1, l2, l3, .val (.int v), l5, l6, l7] st H Q = M15 167 [l0, l1, l2, l3, .val (.int v), l5, l6, l7] (.int v :: st) H Q := w_x (show decode kb15 165 = .ok (.iload 4, 2) from by decide +kernel) rfl
theorem m15_167 : M15 167 ls (.int x :: .ref q :: st) H Q = M15 168 ls (.int x :: .ref q :: .int x :: .ref q :: st) H Q := w_x (show decode kb15 167 = .ok (.dup2, 1) from by decide +kernel) rfl
theorem m15_168  : M15 168 ls (.int j :: .ref ((b + 1) + 6) :: st) (put (b + 1) pre s A post) Q = (inB j (A 5) ∧ M15 169 ls (.int (getA (A 5) j) :: st) (put (b + 1) pre s A post) Q) := w_ild (show decode kb15 168 = .ok (.iaload, 1) from by decide +kernel) rfl put_a5
theorem m15_169 : M15 169 ls st H Q = M15 170 ls (.int 1 :: st) H Q := w_con (show decode kb15 169 = .ok (.iconst 1, 1) from by decide +kernel) rfl (by decide)
theorem m15_170 : M15 170 [l0, .val (.int v), l2, l3, l4, l5, l6, l7] st H Q = M15 171 [l0, .val (.int v), l2, l3, l4, l5, l6, l7] (.int v :: st) H Q := w_x (show decode kb15 170 = .ok (.iload_n 1, 1) from by decide +kernel) rfl
theorem m15_171 : M15 171 ls (.int y :: .int x :: st) H Q = M15 172 ls (.int (x <<< (y &&& 31)) :: st) H Q := w_x (show decode kb15 171 = .ok (.ishl, 1) from by decide +kernel) rfl
theorem m15_172 : M15 172 ls (.int y :: .int x :: st) H Q = M15 173 ls (.int (x ||| y) :: st) H Q := w_x (show decode kb15 172 = .ok (.ior, 1) from by decide +kernel) rfl
theorem m15_173  : M15 173 ls (.int v :: .int j :: .ref ((b + 1) + 6) :: st) (put (b + 1) pre s A post) Q = (inB j (A 5) ∧ M15 174 ls st (put (b + 1) pre s (ou A 5 (setA (A 5) j v)) post) Q) := w_ist (show decode kb15 173 = .ok (.iastore, 1) from by decide +kernel) rfl put_a5 (by omega) rfl put_w5
theorem m15_174 : M15 174 ls [] H Q = Q none H := w_vret (show decode kb15 174 = .ok (.return_, 1) from by decide +kernel) rfl
theorem m16_0 : M16 0 ls st H Q = M16 1 ls (.int 0 :: st) H Q := w_con (show decode kb16 0 = .ok (.iconst 0, 1) from by decide +kernel) rfl (by decide)
theorem m16_1u : M16 1 [l0, .unset, l2, l3, l4, l5, l6, l7, l8] ((.int v) :: st) H Q = M16 2 [l0, .val (.int v), l2, l3, l4, l5, l6, l7, l8] st H Q := w_st (i := 1) (p := isI) (show decode kb16 1 = .ok (.istore_n 1, 1) from by decide +kernel) rfl rfl rfl rfl rfl rfl
theorem m16_2 : M16 2 ls st H Q = M16 3 ls (.int 0 :: st) H Q := w_con (show decode kb16 2 = .ok (.iconst 0, 1) from by decide +kernel) rfl (by decide)
theorem m16_3u : M16 3 [l0, l1, .unset, l3, l4, l5, l6, l7, l8] ((.int v) :: st) H Q = M16 4 [l0, l1, .val (.int v), l3, l4, l5, l6, l7, l8] st H Q := w_st (i := 2) (p := isI) (show decode kb16 3 = .ok (.istore_n 2, 1) from by decide +kernel) rfl rfl rfl rfl rfl rfl
theorem m16_4 : M16 4 [l0, l1, .val (.int v), l3, l4, l5, l6, l7, l8] st H Q = M16 5 [l0, l1, .val (.int v), l3, l4, l5, l6, l7, l8] (.int v :: st) H Q := w_x (show decode kb16 4 = .ok (.iload_n 2, 1) from by decide +kernel) rfl
theorem m16_5 : M16 5 ls st H Q = M16 8 ls (.int 256 :: st) H Q := w_con (show decode kb16 5 = .ok (.sipush 256, 3) from by decide +kernel) rfl (by decide)
theorem m16_8 : M16 8 ls (.int y :: .int x :: st) H Q = if x < y then M16 11 ls st H Q else M16 57 ls st H Q := w_icmpN (show decode kb16 8 = .ok (.if_icmp .ge 49, 3) from by decide +kernel) (i_ge x y) rfl
theorem m16_11 : M16 11 [.val (.ref r), l1, l2, l3, l4, l5, l6, l7, l8] st H Q = M16 12 [.val (.ref r), l1, l2, l3, l4, l5, l6, l7, l8] (.ref r :: st) H Q := w_x (show decode kb16 11 = .ok (.aload_n 0, 1) from by decide +kernel) rfl
theorem m16_12 : M16 12 ls (.ref (b + 1) :: st) (put (b + 1) pre s A post) Q = M16 15 ls (.ref ((b + 1) + 4) :: st) (put (b + 1) pre s A post) Q := w_get (show decode kb16 12 = .ok (.getfield 19, 3) from by decide +kernel) gf_19 put_o rfl
theorem m16_15 : M16 15 [l0, l1, .val (.int v), l3, l4, l5, l6, l7, l8] st H Q = M16 16 [l0, l1, .val (.int v), l3, l4, l5, l6, l7, l8] (.int v :: st) H Q := w_x (show decode kb16 15 = .ok (.iload_n 2, 1) from by decide +kernel) rfl
theorem m16_16  : M16 16 ls (.int j :: .ref ((b + 1) + 4) :: st) (put (b + 1) pre s A post) Q = (inB j (A 3) ∧ M16 17 ls (.int (getA (A 3) j) :: st) (put (b + 1) pre s A post) Q) := w_ild (show decode kb16 16 = .ok (.iaload, 1) from by decide +kernel) rfl put_a3
theorem m16_17u : M16 17 [l0, l1, l2, .unset, l4, l5, l6, l7, l8] ((.int v) :: st) H Q = M16 18 [l0, l1, l2, .val (.int v), l4, l5, l6, l7, l8] st H Q := w_st (i := 3) (p := isI) (show decode kb16 17 = .ok (.istore_n 3, 1) from by decide +kernel) rfl rfl rfl rfl rfl rfl
theorem m16_17i : M16 17 [l0, l1, l2, .val (.int z), l4, l5, l6, l7, l8] ((.int v) :: st) H Q = M16 18 [l0, l1, l2, .val (.int v), l4, l5, l6, l7, l8] st H Q := w_st (i := 3) (p := isI) (show decode kb16 17 = .ok (.istore_n 3, 1) from by decide +kernel) rfl rfl rfl rfl rfl rfl
theorem m16_17r : M16 17 [l0, l1, l2, .val (.ref q), l4, l5, l6, l7, l8] ((.int v) :: st) H Q = M16 18 [l0, l1, l2, .val (.int v), l4, l5, l6, l7, l8] st H Q := w_st (i := 3) (p := isI) (show decode kb16 17 = .ok (.istore_n 3, 1) from by decide +kernel) rfl rfl rfl rfl rfl rfl
theorem m16_17g (h : okS l3) : M16 17 [l0, l1, l2, l3, l4, l5, l6, l7, l8] ((.int v) :: st) H Q = M16 18 [l0, l1, l2, .val (.int v), l4, l5, l6, l7, l8] st H Q := by rcases h with rfl | ⟨z, rfl⟩ <;> first | exact m16_17u | exact m16_17i
theorem m16_18 : M16 18 [l0, l1, l2, .val (.int v), l4, l5, l6, l7, l8] st H Q = M16 19 [l0, l1, l2, .val (.int v), l4, l5, l6, l7, l8] (.int v :: st) H Q := w_x (show decode kb16 18 = .ok (.iload_n 3, 1) from by decide +kernel) rfl
theorem m16_19 : M16 19 ls (.int x :: st) H Q = if 0 < x then M16 22 ls st H Q else M16 51 ls st H Q := w_ifN (show decode kb16 19 = .ok (.ifCond .le 32, 3) from by decide +kernel) (z_le x) rfl
theorem m16_22 : M16 22 [l0, l1, l2, .val (.int v), l4, l5, l6, l7, l8] st H Q = M16 23 [l0, l1, l2, .val (.int v), l4, l5, l6, l7, l8] (.int v :: st) H Q := w_x (show decode kb16 22 = .ok (.iload_n 3, 1) from by decide +kernel) rfl
theorem m16_23 : M16 23 ls st H Q = M16 25 ls (.int 65 :: st) H Q := w_con (show decode kb16 23 = .ok (.bipush 65, 2) from by decide +kernel) rfl (by decide)
theorem m16_25 : M16 25 ls (.int y :: .int x :: st) H Q = if x < y then M16 28 ls st H Q else M16 51 ls st H Q := w_icmpN (show decode kb16 25 = .ok (.if_icmp .ge 26, 3) from by decide +kernel) (i_ge x y) rfl
theorem m16_28 : M16 28 [l0, .val (.int v), l2, l3, l4, l5, l6, l7, l8] st H Q = M16 29 [l0, .val (.int v), l2, l3, l4, l5, l6, l7, l8] (.int v :: st) H Q := w_x (show decode kb16 28 = .ok (.iload_n 1, 1) from by decide +kernel) rfl
theorem m16_29 : M16 29 ls st H Q = M16 31 ls (.int 65 :: st) H Q := w_con (show decode kb16 29 = .ok (.bipush 65, 2) from by decide +kernel) rfl (by decide)
theorem m16_31 : M16 31 ls (.int y :: .int x :: st) H Q = if x < y then M16 34 ls st H Q else M16 51 ls st H Q := w_icmpN (show decode kb16 31 = .ok (.if_icmp .ge 20, 3) from by decide +kernel) (i_ge x y) rfl
theorem m16_34 : M16 34 [.val (.ref r), l1, l2, l3, l4, l5, l6, l7, l8] st H Q = M16 35 [.val (.ref r), l1, l2, l3, l4, l5, l6, l7, l8] (.ref r :: st) H Q := w_x (show decode kb16 34 = .ok (.aload_n 0, 1) from by decide +kernel) rfl
theorem m16_35 : M16 35 ls (.ref (b + 1) :: st) (put (b + 1) pre s A post) Q = M16 38 ls (.ref ((b + 1) + 5) :: st) (put (b + 1) pre s A post) Q := w_get (show decode kb16 35 = .ok (.getfield 22, 3) from by decide +kernel) gf_22 put_o rfl
theorem m16_38 : M16 38 [l0, l1, l2, .val (.int v), l4, l5, l6, l7, l8] st H Q = M16 39 [l0, l1, l2, .val (.int v), l4, l5, l6, l7, l8] (.int v :: st) H Q := w_x (show decode kb16 38 = .ok (.iload_n 3, 1) from by decide +kernel) rfl
theorem m16_39 : M16 39 ls st H Q = M16 40 ls (.int 0 :: st) H Q := w_con (show decode kb16 39 = .ok (.iconst 0, 1) from by decide +kernel) rfl (by decide)
theorem m16_40  : M16 40 ls (.int v :: .int j :: .ref ((b + 1) + 5) :: st) (put (b + 1) pre s A post) Q = (inB j (A 4) ∧ M16 41 ls st (put (b + 1) pre s (ou A 4 (setA (A 4) j v)) post) Q) := w_ist (show decode kb16 40 = .ok (.iastore, 1) from by decide +kernel) rfl put_a4 (by omega) rfl put_w4
theorem m16_41 : M16 41 [.val (.ref r), l1, l2, l3, l4, l5, l6, l7, l8] st H Q = M16 42 [.val (.ref r), l1, l2, l3, l4, l5, l6, l7, l8] (.ref r :: st) H Q := w_x (show decode kb16 41 = .ok (.aload_n 0, 1) from by decide +kernel) rfl
theorem m16_42 : M16 42 ls (.ref (b + 1) :: st) (put (b + 1) pre s A post) Q = M16 45 ls (.ref ((b + 1) + 7) :: st) (put (b + 1) pre s A post) Q := w_get (show decode kb16 42 = .ok (.getfield 28, 3) from by decide +kernel) gf_28 put_o rfl
theorem m16_45 : M16 45 [l0, .val (.int v), l2, l3, l4, l5, l6, l7, l8] st H Q = M16 46 [l0, .val (.int v), l2, l3, l4, l5, l6, l7, l8] (.int v :: st) H Q := w_x (show decode kb16 45 = .ok (.iload_n 1, 1) from by decide +kernel) rfl
theorem m16_46 : M16 46 [l0, l1, l2, .val (.int v), l4, l5, l6, l7, l8] st H Q = M16 47 [l0, l1, l2, .val (.int v), l4, l5, l6, l7, l8] (.int v :: st) H Q := w_x (show decode kb16 46 = .ok (.iload_n 3, 1) from by decide +kernel) rfl
theorem m16_47  : M16 47 ls (.int v :: .int j :: .ref ((b + 1) + 7) :: st) (put (b + 1) pre s A post) Q = (inB j (A 6) ∧ M16 48 ls st (put (b + 1) pre s (ou A 6 (setA (A 6) j v)) post) Q) := w_ist (show decode kb16 47 = .ok (.iastore, 1) from by decide +kernel) rfl put_a6 (by omega) rfl put_w6
theorem m16_48 : M16 48 [l0, .val (.int v), l2, l3, l4, l5, l6, l7, l8] st H Q = M16 51 [l0, .val (.int (v + 1)), l2, l3, l4, l5, l6, l7, l8] st H Q := w_iinc (show decode kb16 48 = .ok (.iinc 1 1, 3) from by decide +kernel) rfl (by decide) rfl
theorem m16_51 : M16 51 [l0, l1, .val (.int v), l3, l4, l5, l6, l7, l8] st H Q = M16 54 [l0, l1, .val (.int (v + 1)), l3, l4, l5, l6, l7, l8] st H Q := w_iinc (show decode kb16 51 = .ok (.iinc 2 1, 3) from by decide +kernel) rfl (by decide) rfl
theorem m16_54 : M16 54 ls st H Q = M16 4 ls st H Q := w_x (show decode kb16 54 = .ok (.goto (-50), 3) from by decide +kernel) rfl
theorem m16_57 : M16 57 ls st H Q = M16 58 ls (.int 0 :: st) H Q := w_con (show decode kb16 57 = .ok (.iconst 0, 1) from by decide +kernel) rfl (by decide)
theorem m16_58i : M16 58 [l0, l1, .val (.int z), l3, l4, l5, l6, l7, l8] ((.int v) :: st) H Q = M16 59 [l0, l1, .val (.int v), l3, l4, l5, l6, l7, l8] st H Q := w_st (i := 2) (p := isI) (show decode kb16 58 = .ok (.istore_n 2, 1) from by decide +kernel) rfl rfl rfl rfl rfl rfl
theorem m16_59 : M16 59 [l0, l1, .val (.int v), l3, l4, l5, l6, l7, l8] st H Q = M16 60 [l0, l1, .val (.int v), l3, l4, l5, l6, l7, l8] (.int v :: st) H Q := w_x (show decode kb16 59 = .ok (.iload_n 2, 1) from by decide +kernel) rfl
theorem m16_60 : M16 60 [l0, .val (.int v), l2, l3, l4, l5, l6, l7, l8] st H Q = M16 61 [l0, .val (.int v), l2, l3, l4, l5, l6, l7, l8] (.int v :: st) H Q := w_x (show decode kb16 60 = .ok (.iload_n 1, 1) from by decide +kernel) rfl
theorem m16_61 : M16 61 ls (.int y :: .int x :: st) H Q = if x < y then M16 64 ls st H Q else M16 237 ls st H Q := w_icmpN (show decode kb16 61 = .ok (.if_icmp .ge 176, 3) from by decide +kernel) (i_ge x y) rfl
theorem m16_64 : M16 64 [l0, l1, .val (.int v), l3, l4, l5, l6, l7, l8] st H Q = M16 65 [l0, l1, .val (.int v), l3, l4, l5, l6, l7, l8] (.int v :: st) H Q := w_x (show decode kb16 64 = .ok (.iload_n 2, 1) from by decide +kernel) rfl
theorem m16_65 : M16 65 ls st H Q = M16 67 ls (.int 65 :: st) H Q := w_con (show decode kb16 65 = .ok (.bipush 65, 2) from by decide +kernel) rfl (by decide)
theorem m16_67 : M16 67 ls (.int y :: .int x :: st) H Q = if x < y then M16 70 ls st H Q else M16 237 ls st H Q := w_icmpN (show decode kb16 67 = .ok (.if_icmp .ge 170, 3) from by decide +kernel) (i_ge x y) rfl
theorem m16_70 : M16 70 [.val (.ref r), l1, l2, l3, l4, l5, l6, l7, l8] st H Q = M16 71 [.val (.ref r), l1, l2, l3, l4, l5, l6, l7, l8] (.ref r :: st) H Q := w_x (show decode kb16 70 = .ok (.aload_n 0, 1) from by decide +kernel) rfl
theorem m16_71 : M16 71 ls (.ref (b + 1) :: st) (put (b + 1) pre s A post) Q = M16 74 ls (.ref ((b + 1) + 7) :: st) (put (b + 1) pre s A post) Q := w_get (show decode kb16 71 = .ok (.getfield 28, 3) from by decide +kernel) gf_28 put_o rfl
theorem m16_74 : M16 74 [l0, l1, .val (.int v), l3, l4, l5, l6, l7, l8] st H Q = M16 75 [l0, l1, .val (.int v), l3, l4, l5, l6, l7, l8] (.int v :: st) H Q := w_x (show decode kb16 74 = .ok (.iload_n 2, 1) from by decide +kernel) rfl
theorem m16_75  : M16 75 ls (.int j :: .ref ((b + 1) + 7) :: st) (put (b + 1) pre s A post) Q = (inB j (A 6) ∧ M16 76 ls (.int (getA (A 6) j) :: st) (put (b + 1) pre s A post) Q) := w_ild (show decode kb16 75 = .ok (.iaload, 1) from by decide +kernel) rfl put_a6
theorem m16_76u : M16 76 [l0, l1, l2, .unset, l4, l5, l6, l7, l8] ((.int v) :: st) H Q = M16 77 [l0, l1, l2, .val (.int v), l4, l5, l6, l7, l8] st H Q := w_st (i := 3) (p := isI) (show decode kb16 76 = .ok (.istore_n 3, 1) from by decide +kernel) rfl rfl rfl rfl rfl rfl
theorem m16_76i : M16 76 [l0, l1, l2, .val (.int z), l4, l5, l6, l7, l8] ((.int v) :: st) H Q = M16 77 [l0, l1, l2, .val (.int v), l4, l5, l6, l7, l8] st H Q := w_st (i := 3) (p := isI) (show decode kb16 76 = .ok (.istore_n 3, 1) from by decide +kernel) rfl rfl rfl rfl rfl rfl
theorem m16_76r : M16 76 [l0, l1, l2, .val (.ref q), l4, l5, l6, l7, l8] ((.int v) :: st) H Q = M16 77 [l0, l1, l2, .val (.int v), l4, l5, l6, l7, l8] st H Q := w_st (i := 3) (p := isI) (show decode kb16 76 = .ok (.istore_n 3, 1) from by decide +kernel) rfl rfl rfl rfl rfl rfl
theorem m16_76g (h : okS l3) : M16 76 [l0, l1, l2, l3, l4, l5, l6, l7, l8] ((.int v) :: st) H Q = M16 77 [l0, l1, l2, .val (.int v), l4, l5, l6, l7, l8] st H Q := by rcases h with rfl | ⟨z, rfl⟩ <;> first | exact m16_76u | exact m16_76i
theorem m16_77 : M16 77 [l0, l1, .val (.int v), l3, l4, l5, l6, l7, l8] st H Q = M16 80 [l0, l1, .val (.int (v + 1)), l3, l4, l5, l6, l7, l8] st H Q := w_iinc (show decode kb16 77 = .ok (.iinc 2 1, 3) from by decide +kernel) rfl (by decide) rfl
theorem m16_80 : M16 80 [l0, l1, l2, .val (.int v), l4, l5, l6, l7, l8] st H Q = M16 81 [l0, l1, l2, .val (.int v), l4, l5, l6, l7, l8] (.int v :: st) H Q := w_x (show decode kb16 80 = .ok (.iload_n 3, 1) from by decide +kernel) rfl
theorem m16_81 : M16 81 ls (.int x :: st) H Q = if 0 < x then M16 84 ls st H Q else M16 59 ls st H Q := w_ifN (show decode kb16 81 = .ok (.ifCond .le (-22), 3) from by decide +kernel) (z_le x) rfl
theorem m16_84 : M16 84 [l0, l1, l2, .val (.int v), l4, l5, l6, l7, l8] st H Q = M16 85 [l0, l1, l2, .val (.int v), l4, l5, l6, l7, l8] (.int v :: st) H Q := w_x (show decode kb16 84 = .ok (.iload_n 3, 1) from by decide +kernel) rfl
theorem m16_85 : M16 85 ls st H Q = M16 87 ls (.int 65 :: st) H Q := w_con (show decode kb16 85 = .ok (.bipush 65, 2) from by decide +kernel) rfl (by decide)
theorem m16_87 : M16 87 ls (.int y :: .int x :: st) H Q = if x < y then M16 93 ls st H Q else M16 90 ls st H Q := w_icmp (show decode kb16 87 = .ok (.if_icmp .lt 6, 3) from by decide +kernel) (i_lt x y) rfl
theorem m16_90 : M16 90 ls st H Q = M16 59 ls st H Q := w_x (show decode kb16 90 = .ok (.goto (-31), 3) from by decide +kernel) rfl
theorem m16_93 : M16 93 [.val (.ref r), l1, l2, l3, l4, l5, l6, l7, l8] st H Q = M16 94 [.val (.ref r), l1, l2, l3, l4, l5, l6, l7, l8] (.ref r :: st) H Q := w_x (show decode kb16 93 = .ok (.aload_n 0, 1) from by decide +kernel) rfl
theorem m16_94 : M16 94 ls (.ref (b + 1) :: st) (put (b + 1) pre s A post) Q = M16 97 ls (.ref ((b + 1) + 5) :: st) (put (b + 1) pre s A post) Q := w_get (show decode kb16 94 = .ok (.getfield 22, 3) from by decide +kernel) gf_22 put_o rfl
theorem m16_97 : M16 97 [l0, l1, l2, .val (.int v), l4, l5, l6, l7, l8] st H Q = M16 98 [l0, l1, l2, .val (.int v), l4, l5, l6, l7, l8] (.int v :: st) H Q := w_x (show decode kb16 97 = .ok (.iload_n 3, 1) from by decide +kernel) rfl
theorem m16_98  : M16 98 ls (.int j :: .ref ((b + 1) + 5) :: st) (put (b + 1) pre s A post) Q = (inB j (A 4) ∧ M16 99 ls (.int (getA (A 4) j) :: st) (put (b + 1) pre s A post) Q) := w_ild (show decode kb16 98 = .ok (.iaload, 1) from by decide +kernel) rfl put_a4
theorem m16_99u : M16 99 [l0, l1, l2, l3, .unset, l5, l6, l7, l8] ((.int v) :: st) H Q = M16 101 [l0, l1, l2, l3, .val (.int v), l5, l6, l7, l8] st H Q := w_st (i := 4) (p := isI) (show decode kb16 99 = .ok (.istore 4, 2) from by decide +kernel) rfl rfl rfl rfl rfl rfl
theorem m16_99i : M16 99 [l0, l1, l2, l3, .val (.int z), l5, l6, l7, l8] ((.int v) :: st) H Q = M16 101 [l0, l1, l2, l3, .val (.int v), l5, l6, l7, l8] st H Q := w_st (i := 4) (p := isI) (show decode kb16 99 = .ok (.istore 4, 2) from by decide +kernel) rfl rfl rfl rfl rfl rfl
theorem m16_99r : M16 99 [l0, l1, l2, l3, .val (.ref q), l5, l6, l7, l8] ((.int v) :: st) H Q = M16 101 [l0, l1, l2, l3, .val (.int v), l5, l6, l7, l8] st H Q := w_st (i := 4) (p := isI) (show decode kb16 99 = .ok (.istore 4, 2) from by decide +kernel) rfl rfl rfl rfl rfl rfl
theorem m16_99g (h : okS l4) : M16 99 [l0, l1, l2, l3, l4, l5, l6, l7, l8] ((.int v) :: st) H Q = M16 101 [l0, l1, l2, l3, .val (.int v), l5, l6, l7, l8] st H Q := by rcases h with rfl | ⟨z, rfl⟩ <;> first | exact m16_99u | exact m16_99i
theorem m16_101 : M16 101 [l0, l1, l2, l3, .val (.int v), l5, l6, l7, l8] st H Q = M16 103 [l0, l1, l2, l3, .val (.int v), l5, l6, l7, l8] (.int v :: st) H Q := w_x (show decode kb16 101 = .ok (.iload 4, 2) from by decide +kernel) rfl
theorem m16_103 : M16 103 ls (.int x :: st) H Q = if x < 0 then M16 113 ls st H Q else M16 106 ls st H Q := w_if (show decode kb16 103 = .ok (.ifCond .lt 10, 3) from by decide +kernel) (z_lt x) rfl
theorem m16_106 : M16 106 [l0, l1, l2, l3, .val (.int v), l5, l6, l7, l8] st H Q = M16 108 [l0, l1, l2, l3, .val (.int v), l5, l6, l7, l8] (.int v :: st) H Q := w_x (show decode kb16 106 = .ok (.iload 4, 2) from by decide +kernel) rfl
theorem m16_108 : M16 108 ls st H Q = M16 110 ls (.int 65 :: st) H Q := w_con (show decode kb16 108 = .ok (.bipush 65, 2) from by decide +kernel) rfl (by decide)
theorem m16_110 : M16 110 ls (.int y :: .int x :: st) H Q = if x < y then M16 116 ls st H Q else M16 113 ls st H Q := w_icmp (show decode kb16 110 = .ok (.if_icmp .lt 6, 3) from by decide +kernel) (i_lt x y) rfl
theorem m16_113 : M16 113 ls st H Q = M16 114 ls (.int 0 :: st) H Q := w_con (show decode kb16 113 = .ok (.iconst 0, 1) from by decide +kernel) rfl (by decide)
theorem m16_114i : M16 114 [l0, l1, l2, l3, .val (.int z), l5, l6, l7, l8] ((.int v) :: st) H Q = M16 116 [l0, l1, l2, l3, .val (.int v), l5, l6, l7, l8] st H Q := w_st (i := 4) (p := isI) (show decode kb16 114 = .ok (.istore 4, 2) from by decide +kernel) rfl rfl rfl rfl rfl rfl
theorem m16_116 : M16 116 [.val (.ref r), l1, l2, l3, l4, l5, l6, l7, l8] st H Q = M16 117 [.val (.ref r), l1, l2, l3, l4, l5, l6, l7, l8] (.ref r :: st) H Q := w_x (show decode kb16 116 = .ok (.aload_n 0, 1) from by decide +kernel) rfl
theorem m16_117 : M16 117 ls (.ref (b + 1) :: st) (put (b + 1) pre s A post) Q = M16 120 ls (.ref ((b + 1) + 6) :: st) (put (b + 1) pre s A post) Q := w_get (show decode kb16 117 = .ok (.getfield 25, 3) from by decide +kernel) gf_25 put_o rfl
theorem m16_120 : M16 120 [l0, l1, l2, .val (.int v), l4, l5, l6, l7, l8] st H Q = M16 121 [l0, l1, l2, .val (.int v), l4, l5, l6, l7, l8] (.int v :: st) H Q := w_x (show decode kb16 120 = .ok (.iload_n 3, 1) from by decide +kernel) rfl
theorem m16_121 : M16 121 ls (.int x :: .ref q :: st) H Q = M16 122 ls (.int x :: .ref q :: .int x :: .ref q :: st) H Q := w_x (show decode kb16 121 = .ok (.dup2, 1) from by decide +kernel) rfl
theorem m16_122  : M16 122 ls (.int j :: .ref ((b + 1) + 6) :: st) (put (b + 1) pre s A post) Q = (inB j (A 5) ∧ M16 123 ls (.int (getA (A 5) j) :: st) (put (b + 1) pre s A post) Q) := w_ild (show decode kb16 122 = .ok (.iaload, 1) from by decide +kernel) rfl put_a5
theorem m16_123 : M16 123 [.val (.ref r), l1, l2, l3, l4, l5, l6, l7, l8] st H Q = M16 124 [.val (.ref r), l1, l2, l3, l4, l5, l6, l7, l8] (.ref r :: st) H Q := w_x (show decode kb16 123 = .ok (.aload_n 0, 1) from by decide +kernel) rfl
theorem m16_124 : M16 124 ls (.ref (b + 1) :: st) (put (b + 1) pre s A post) Q = M16 127 ls (.ref ((b + 1) + 6) :: st) (put (b + 1) pre s A post) Q := w_get (show decode kb16 124 = .ok (.getfield 25, 3) from by decide +kernel) gf_25 put_o rfl
theorem m16_127 : M16 127 [l0, l1, l2, l3, .val (.int v), l5, l6, l7, l8] st H Q = M16 129 [l0, l1, l2, l3, .val (.int v), l5, l6, l7, l8] (.int v :: st) H Q := w_x (show decode kb16 127 = .ok (.iload 4, 2) from by decide +kernel) rfl
theorem m16_129  : M16 129 ls (.int j :: .ref ((b + 1) + 6) :: st) (put (b + 1) pre s A post) Q = (inB j (A 5) ∧ M16 130 ls (.int (getA (A 5) j) :: st) (put (b + 1) pre s A post) Q) := w_ild (show decode kb16 129 = .ok (.iaload, 1) from by decide +kernel) rfl put_a5
theorem m16_130 : M16 130 ls (.int y :: .int x :: st) H Q = M16 131 ls (.int (x ||| y) :: st) H Q := w_x (show decode kb16 130 = .ok (.ior, 1) from by decide +kernel) rfl
theorem m16_131  : M16 131 ls (.int v :: .int j :: .ref ((b + 1) + 6) :: st) (put (b + 1) pre s A post) Q = (inB j (A 5) ∧ M16 132 ls st (put (b + 1) pre s (ou A 5 (setA (A 5) j v)) post) Q) := w_ist (show decode kb16 131 = .ok (.iastore, 1) from by decide +kernel) rfl put_a5 (by omega) rfl put_w5
theorem m16_132 : M16 132 ls st H Q = M16 133 ls (.int 0 :: st) H Q := w_con (show decode kb16 132 = .ok (.iconst 0, 1) from by decide +kernel) rfl (by decide)
theorem m16_133u : M16 133 [l0, l1, l2, l3, l4, .unset, l6, l7, l8] ((.int v) :: st) H Q = M16 135 [l0, l1, l2, l3, l4, .val (.int v), l6, l7, l8] st H Q := w_st (i := 5) (p := isI) (show decode kb16 133 = .ok (.istore 5, 2) from by decide +kernel) rfl rfl rfl rfl rfl rfl
theorem m16_133i : M16 133 [l0, l1, l2, l3, l4, .val (.int z), l6, l7, l8] ((.int v) :: st) H Q = M16 135 [l0, l1, l2, l3, l4, .val (.int v), l6, l7, l8] st H Q := w_st (i := 5) (p := isI) (show decode kb16 133 = .ok (.istore 5, 2) from by decide +kernel) rfl rfl rfl rfl rfl rfl
theorem m16_133r : M16 133 [l0, l1, l2, l3, l4, .val (.ref q), l6, l7, l8] ((.int v) :: st) H Q = M16 135 [l0, l1, l2, l3, l4, .val (.int v), l6, l7, l8] st H Q := w_st (i := 5) (p := isI) (show decode kb16 133 = .ok (.istore 5, 2) from by decide +kernel) rfl rfl rfl rfl rfl rfl
theorem m16_133g (h : okS l5) : M16 133 [l0, l1, l2, l3, l4, l5, l6, l7, l8] ((.int v) :: st) H Q = M16 135 [l0, l1, l2, l3, l4, .val (.int v), l6, l7, l8] st H Q := by rcases h with rfl | ⟨z, rfl⟩ <;> first | exact m16_133u | exact m16_133i
theorem m16_135 : M16 135 [l0, l1, l2, l3, l4, .val (.int v), l6, l7, l8] st H Q = M16 137 [l0, l1, l2, l3, l4, .val (.int v), l6, l7, l8] (.int v :: st) H Q := w_x (show decode kb16 135 = .ok (.iload 5, 2) from by decide +kernel) rfl
theorem m16_137 : M16 137 ls st H Q = M16 140 ls (.int 256 :: st) H Q := w_con (show decode kb16 137 = .ok (.sipush 256, 3) from by decide +kernel) rfl (by decide)
theorem m16_140 : M16 140 ls (.int y :: .int x :: st) H Q = if x < y then M16 143 ls st H Q else M16 234 ls st H Q := w_icmpN (show decode kb16 140 = .ok (.if_icmp .ge 94, 3) from by decide +kernel) (i_ge x y) rfl
theorem m16_143 : M16 143 [l0, l1, l2, .val (.int v), l4, l5, l6, l7, l8] st H Q = M16 144 [l0, l1, l2, .val (.int v), l4, l5, l6, l7, l8] (.int v :: st) H Q := w_x (show decode kb16 143 = .ok (.iload_n 3, 1) from by decide +kernel) rfl
theorem m16_144 : M16 144 ls st H Q = M16 147 ls (.int 256 :: st) H Q := w_con (show decode kb16 144 = .ok (.sipush 256, 3) from by decide +kernel) rfl (by decide)
theorem m16_147 : M16 147 ls (.int y :: .int x :: st) H Q = M16 148 ls (.int (x * y) :: st) H Q := w_x (show decode kb16 147 = .ok (.imul, 1) from by decide +kernel) rfl
theorem m16_148 : M16 148 [l0, l1, l2, l3, l4, .val (.int v), l6, l7, l8] st H Q = M16 150 [l0, l1, l2, l3, l4, .val (.int v), l6, l7, l8] (.int v :: st) H Q := w_x (show decode kb16 148 = .ok (.iload 5, 2) from by decide +kernel) rfl
theorem m16_150 : M16 150 ls (.int y :: .int x :: st) H Q = M16 151 ls (.int (x + y) :: st) H Q := w_x (show decode kb16 150 = .ok (.iadd, 1) from by decide +kernel) rfl
theorem m16_151u : M16 151 [l0, l1, l2, l3, l4, l5, .unset, l7, l8] ((.int v) :: st) H Q = M16 153 [l0, l1, l2, l3, l4, l5, .val (.int v), l7, l8] st H Q := w_st (i := 6) (p := isI) (show decode kb16 151 = .ok (.istore 6, 2) from by decide +kernel) rfl rfl rfl rfl rfl rfl
theorem m16_151i : M16 151 [l0, l1, l2, l3, l4, l5, .val (.int z), l7, l8] ((.int v) :: st) H Q = M16 153 [l0, l1, l2, l3, l4, l5, .val (.int v), l7, l8] st H Q := w_st (i := 6) (p := isI) (show decode kb16 151 = .ok (.istore 6, 2) from by decide +kernel) rfl rfl rfl rfl rfl rfl
theorem m16_151r : M16 151 [l0, l1, l2, l3, l4, l5, .val (.ref q), l7, l8] ((.int v) :: st) H Q = M16 153 [l0, l1, l2, l3, l4, l5, .val (.int v), l7, l8] st H Q := w_st (i := 6) (p := isI) (show decode kb16 151 = .ok (.istore 6, 2) from by decide +kernel) rfl rfl rfl rfl rfl rfl
theorem m16_151g (h : okS l6) : M16 151 [l0, l1, l2, l3, l4, l5, l6, l7, l8] ((.int v) :: st) H Q = M16 153 [l0, l1, l2, l3, l4, l5, .val (.int v), l7, l8] st H Q := by rcases h with rfl | ⟨z, rfl⟩ <;> first | exact m16_151u | exact m16_151i
theorem m16_153 : M16 153 [.val (.ref r), l1, l2, l3, l4, l5, l6, l7, l8] st H Q = M16 154 [.val (.ref r), l1, l2, l3, l4, l5, l6, l7, l8] (.ref r :: st) H Q := w_x (show decode kb16 153 = .ok (.aload_n 0, 1) from by decide +kernel) rfl
theorem m16_154 : M16 154 ls (.ref (b + 1) :: st) (put (b + 1) pre s A post) Q = M16 157 ls (.ref ((b + 1) + 4) :: st) (put (b + 1) pre s A post) Q := w_get (show decode kb16 154 = .ok (.getfield 19, 3) from by decide +kernel) gf_19 put_o rfl
theorem m16_157 : M16 157 [l0, l1, l2, l3, .val (.int v), l5, l6, l7, l8] st H Q = M16 159 [l0, l1, l2, l3, .val (.int v), l5, l6, l7, l8] (.int v :: st) H Q := w_x (show decode kb16 157 = .ok (.iload 4, 2) from by decide +kernel) rfl
theorem m16_159 : M16 159 ls st H Q = M16 162 ls (.int 256 :: st) H Q := w_con (show decode kb16 159 = .ok (.sipush 256, 3) from by decide +kernel) rfl (by decide)
theorem m16_162 : M16 162 ls (.int y :: .int x :: st) H Q = M16 163 ls (.int (x * y) :: st) H Q := w_x (show decode kb16 162 = .ok (.imul, 1) from by decide +kernel) rfl
theorem m16_163 : M16 163 [l0, l1, l2, l3, l4, .val (.int v), l6, l7, l8] st H Q = M16 165 [l0, l1, l2, l3, l4, .val (.int v), l6, l7, l8] (.int v :: st) H Q := w_x (show decode kb16 163 = .ok (.iload 5, 2) from by decide +kernel) rfl
theorem m16_165 : M16 165 ls (.int y :: .int x :: st) H Q = M16 166 ls (.int (x + y) :: st) H Q := w_x (show decode kb16 165 = .ok (.iadd, 1) from by decide +kernel) rfl
theorem m16_166  : M16 166 ls (.int j :: .ref ((b + 1) + 4) :: st) (put (b + 1) pre s A post) Q = (inB j (A 3) ∧ M16 167 ls (.int (getA (A 3) j) :: st) (put (b + 1) pre s A post) Q) := w_ild (show decode kb16 166 = .ok (.iaload, 1) from by decide +kernel) rfl put_a3
theorem m16_167u : M16 167 [l0, l1, l2, l3, l4, l5, l6, .unset, l8] ((.int v) :: st) H Q = M16 169 [l0, l1, l2, l3, l4, l5, l6, .val (.int v), l8] st H Q := w_st (i := 7) (p := isI) (show decode kb16 167 = .ok (.istore 7, 2) from by decide +kernel) rfl rfl rfl rfl rfl rfl
theorem m16_167i : M16 167 [l0, l1, l2, l3, l4, l5, l6, .val (.int z), l8] ((.int v) :: st) H Q = M16 169 [l0, l1, l2, l3, l4, l5, l6, .val (.int v), l8] st H Q := w_st (i := 7) (p := isI) (show decode kb16 167 = .ok (.istore 7, 2) from by decide +kernel) rfl rfl rfl rfl rfl rfl
theorem m16_167r : M16 167 [l0, l1, l2, l3, l4, l5, l6, .val (.ref q), l8] ((.int v) :: st) H Q = M16 169 [l0, l1, l2, l3, l4, l5, l6, .val (.int v), l8] st H Q := w_st (i := 7) (p := isI) (show decode kb16 167 = .ok (.istore 7, 2) from by decide +kernel) rfl rfl rfl rfl rfl rfl
theorem m16_167g (h : okS l7) : M16 167 [l0, l1, l2, l3, l4, l5, l6, l7, l8] ((.int v) :: st) H Q = M16 169 [l0, l1, l2, l3, l4, l5, l6, .val (.int v), l8] st H Q := by rcases h with rfl | ⟨z, rfl⟩ <;> first | exact m16_167u | exact m16_167i
theorem m16_169 : M16 169 [.val (.ref r), l1, l2, l3, l4, l5, l6, l7, l8] st H Q = M16 170 [.val (.ref r), l1, l2, l3, l4, l5, l6, l7, l8] (.ref r :: st) H Q := w_x (show decode kb16 169 = .ok (.aload_n 0, 1) from by decide +kernel) rfl
theorem m16_170 : M16 170 ls (.ref (b + 1) :: st) (put (b + 1) pre s A post) Q = M16 173 ls (.ref ((b + 1) + 4) :: st) (put (b + 1) pre s A post) Q := w_get (show decode kb16 170 = .ok (.getfield 19, 3) from by decide +kernel) gf_19 put_o rfl
theorem m16_173 : M16 173 [l0, l1, l2, l3, l4, l5, .val (.int v), l7, l8] st H Q = M16 175 [l0, l1, l2, l3, l4, l5, .val (.int v), l7, l8] (.int v :: st) H Q := w_x (show decode kb16 173 = .ok (.iload 6, 2) from by decide +kernel) rfl
theorem m16_175  : M16 175 ls (.int j :: .ref ((b + 1) + 4) :: st) (put (b + 1) pre s A post) Q = (inB j (A 3) ∧ M16 176 ls (.int (getA (A 3) j) :: st) (put (b + 1) pre s A post) Q) := w_ild (show decode kb16 175 = .ok (.iaload, 1) from by decide +kernel) rfl put_a3
theorem m16_176u : M16 176 [l0, l1, l2, l3, l4, l5, l6, l7, .unset] ((.int v) :: st) H Q = M16 178 [l0, l1, l2, l3, l4, l5, l6, l7, .val (.int v)] st H Q := w_st (i := 8) (p := isI) (show decode kb16 176 = .ok (.istore 8, 2) from by decide +kernel) rfl rfl rfl rfl rfl rfl
theorem m16_176i : M16 176 [l0, l1, l2, l3, l4, l5, l6, l7, .val (.int z)] ((.int v) :: st) H Q = M16 178 [l0, l1, l2, l3, l4, l5, l6, l7, .val (.int v)] st H Q := w_st (i := 8) (p := isI) (show decode kb16 176 = .ok (.istore 8, 2) from by decide +kernel) rfl rfl rfl rfl rfl rfl
theorem m16_176r : M16 176 [l0, l1, l2, l3, l4, l5, l6, l7, .val (.ref q)] ((.int v) :: st) H Q = M16 178 [l0, l1, l2, l3, l4, l5, l6, l7, .val (.int v)] st H Q := w_st (i := 8) (p := isI) (show decode kb16 176 = .ok (.istore 8, 2) from by decide +kernel) rfl rfl rfl rfl rfl rfl
theorem m16_176g (h : okS l8) : M16 176 [l0, l1, l2, l3, l4, l5, l6, l7, l8] ((.int v) :: st) H Q = M16 178 [l0, l1, l2, l3, l4, l5, l6, l7, .val (.int v)] st H Q := by rcases h with rfl | ⟨z, rfl⟩ <;> first | exact m16_176u | exact m16_176i
theorem m16_178 : M16 178 [l0, l1, l2, l3, l4, l5, l6, l7, .val (.int v)] st H Q = M16 180 [l0, l1, l2, l3, l4, l5, l6, l7, .val (.int v)] (.int v :: st) H Q := w_x (show decode kb16 178 = .ok (.iload 8, 2) from by decide +kernel) rfl
theorem m16_180 : M16 180 ls (.int x :: st) H Q = if 0 < x then M16 183 ls st H Q else M16 219 ls st H Q := w_ifN (show decode kb16 180 = .ok (.ifCond .le 39, 3) from by decide +kernel) (z_le x) rfl
theorem m16_183 : M16 183 [l0, l1, l2, l3, l4, l5, l6, l7, .val (.int v)] st H Q = M16 185 [l0, l1, l2, l3, l4, l5, l6, l7, .val (.int v)] (.int v :: st) H Q := w_x (show decode kb16 183 = .ok (.iload 8, 2) from by decide +kernel) rfl
theorem m16_185 : M16 185 ls st H Q = M16 187 ls (.int 65 :: st) H Q := w_con (show decode kb16 185 = .ok (.bipush 65, 2) from by decide +kernel) rfl (by decide)
theorem m16_187 : M16 187 ls (.int y :: .int x :: st) H Q = if x < y then M16 190 ls st H Q else M16 219 ls st H Q := w_icmpN (show decode kb16 187 = .ok (.if_icmp .ge 32, 3) from by decide +kernel) (i_ge x y) rfl
theorem m16_190 : M16 190 [.val (.ref r), l1, l2, l3, l4, l5, l6, l7, l8] st H Q = M16 191 [.val (.ref r), l1, l2, l3, l4, l5, l6, l7, l8] (.ref r :: st) H Q := w_x (show decode kb16 190 = .ok (.aload_n 0, 1) from by decide +kernel) rfl
theorem m16_191 : M16 191 ls (.ref (b + 1) :: st) (put (b + 1) pre s A post) Q = M16 194 ls (.ref ((b + 1) + 5) :: st) (put (b + 1) pre s A post) Q := w_get (show decode kb16 191 = .ok (.getfield 22, 3) from by decide +kernel) gf_22 put_o rfl
theorem m16_194 : M16 194 [l0, l1, l2, l3, l4, l5, l6, l7, .val (.int v)] st H Q = M16 196 [l0, l1, l2, l3, l4, l5, l6, l7, .val (.int v)] (.int v :: st) H Q := w_x (show decode kb16 194 = .ok (.iload 8, 2) from by decide +kernel) rfl
theorem m16_196 : M16 196 [l0, l1, l2, l3, l4, l5, l6, .val (.int v), l8] st H Q = M16 198 [l0, l1, l2, l3, l4, l5, l6, .val (.int v), l8] (.int v :: st) H Q := w_x (show decode kb16 196 = .ok (.iload 7, 2) from by decide +kernel) rfl
theorem m16_198  : M16 198 ls (.int v :: .int j :: .ref ((b + 1) + 5) :: st) (put (b + 1) pre s A post) Q = (inB j (A 4) ∧ M16 199 ls st (put (b + 1) pre s (ou A 4 (setA (A 4) j v)) post) Q) := w_ist (show decode kb16 198 = .ok (.iastore, 1) from by decide +kernel) rfl put_a4 (by omega) rfl put_w4
theorem m16_199 : M16 199 [l0, .val (.int v), l2, l3, l4, l5, l6, l7, l8] st H Q = M16 200 [l0, .val (.int v), l2, l3, l4, l5, l6, l7, l8] (.int v :: st) H Q := w_x (show decode kb16 199 = .ok (.iload_n 1, 1) from by decide +kernel) rfl
theorem m16_200 : M16 200 ls st H Q = M16 202 ls (.int 65 :: st) H Q := w_con (show decode kb16 200 = .ok (.bipush 65, 2) from by decide +kernel) rfl (by decide)
theorem m16_202 : M16 202 ls (.int y :: .int x :: st) H Q = if x < y then M16 205 ls st H Q else M16 228 ls st H Q := w_icmpN (show decode kb16 202 = .ok (.if_icmp .ge 26, 3) from by decide +kernel) (i_ge x y) rfl
theorem m16_205 : M16 205 [.val (.ref r), l1, l2, l3, l4, l5, l6, l7, l8] st H Q = M16 206 [.val (.ref r), l1, l2, l3, l4, l5, l6, l7, l8] (.ref r :: st) H Q := w_x (show decode kb16 205 = .ok (.aload_n 0, 1) from by decide +kernel) rfl
theorem m16_206 : M16 206 ls (.ref (b + 1) :: st) (put (b + 1) pre s A post) Q = M16 209 ls (.ref ((b + 1) + 7) :: st) (put (b + 1) pre s A post) Q := w_get (show decode kb16 206 = .ok (.getfield 28, 3) from by decide +kernel) gf_28 put_o rfl
theorem m16_209 : M16 209 [l0, .val (.int v), l2, l3, l4, l5, l6, l7, l8] st H Q = M16 210 [l0, .val (.int v), l2, l3, l4, l5, l6, l7, l8] (.int v :: st) H Q := w_x (show decode kb16 209 = .ok (.iload_n 1, 1) from by decide +kernel) rfl
theorem m16_210 : M16 210 [l0, l1, l2, l3, l4, l5, l6, l7, .val (.int v)] st H Q = M16 212 [l0, l1, l2, l3, l4, l5, l6, l7, .val (.int v)] (.int v :: st) H Q := w_x (show decode kb16 210 = .ok (.iload 8, 2) from by decide +kernel) rfl
theorem m16_212  : M16 212 ls (.int v :: .int j :: .ref ((b + 1) + 7) :: st) (put (b + 1) pre s A post) Q = (inB j (A 6) ∧ M16 213 ls st (put (b + 1) pre s (ou A 6 (setA (A 6) j v)) post) Q) := w_ist (show decode kb16 212 = .ok (.iastore, 1) from by decide +kernel) rfl put_a6 (by omega) rfl put_w6
theorem m16_213 : M16 213 [l0, .val (.int v), l2, l3, l4, l5, l6, l7, l8] st H Q = M16 216 [l0, .val (.int (v + 1)), l2, l3, l4, l5, l6, l7, l8] st H Q := w_iinc (show decode kb16 213 = .ok (.iinc 1 1, 3) from by decide +kernel) rfl (by decide) rfl
theorem m16_216 : M16 216 ls st H Q = M16 228 ls st H Q := w_x (show decode kb16 216 = .ok (.goto 12, 3) from by decide +kernel) rfl
theorem m16_219 : M16 219 [.val (.ref r), l1, l2, l3, l4, l5, l6, l7, l8] st H Q = M16 220 [.val (.ref r), l1, l2, l3, l4, l5, l6, l7, l8] (.ref r :: st) H Q := w_x (show decode kb16 219 = .ok (.aload_n 0, 1) from by decide +kernel) rfl
theorem m16_220 : M16 220 ls (.ref (b + 1) :: st) (put (b + 1) pre s A post) Q = M16 223 ls (.ref ((b + 1) + 4) :: st) (put (b + 1) pre s A post) Q := w_get (show decode kb16 220 = .ok (.getfield 19, 3) from by decide +kernel) gf_19 put_o rfl
theorem m16_223 : M16 223 [l0, l1, l2, l3, l4, l5, .val (.int v), l7, l8] st H Q = M16 225 [l0, l1, l2, l3, l4, l5, .val (.int v), l7, l8] (.int v :: st) H Q := w_x (show decode kb16 223 = .ok (.iload 6, 2) from by decide +kernel) rfl
theorem m16_225 : M16 225 [l0, l1, l2, l3, l4, l5, l6, .val (.int v), l8] st H Q = M16 227 [l0, l1, l2, l3, l4, l5, l6, .val (.int v), l8] (.int v :: st) H Q := w_x (show decode kb16 225 = .ok (.iload 7, 2) from by decide +kernel) rfl
theorem m16_227  : M16 227 ls (.int v :: .int j :: .ref ((b + 1) + 4) :: st) (put (b + 1) pre s A post) Q = (inB j (A 3) ∧ M16 228 ls st (put (b + 1) pre s (ou A 3 (setA (A 3) j v)) post) Q) := w_ist (show decode kb16 227 = .ok (.iastore, 1) from by decide +kernel) rfl put_a3 (by omega) rfl put_w3
theorem m16_228 : M16 228 [l0, l1, l2, l3, l4, .val (.int v), l6, l7, l8] st H Q = M16 231 [l0, l1, l2, l3, l4, .val (.int (v + 1)), l6, l7, l8] st H Q := w_iinc (show decode kb16 228 = .ok (.iinc 5 1, 3) from by decide +kernel) rfl (by decide) rfl
theorem m16_231 : M16 231 ls st H Q = M16 135 ls st H Q := w_x (show decode kb16 231 = .ok (.goto (-96), 3) from by decide +kernel) rfl
theorem m16_234 : M16 234 ls st H Q = M16 59 ls st H Q := w_x (show decode kb16 234 = .ok (.goto (-175), 3) from by decide +kernel) rfl
theorem m16_237 : M16 237 ls [] H Q = Q none H := w_vret (show decode kb16 237 = .ok (.return_, 1) from by decide +kernel) rfl
theorem m17_0 : M17 0 [.val (.ref r), l1] st H Q = M17 1 [.val (.ref r), l1] (.ref r :: st) H Q := w_x (show decode kb17 0 = .ok (.aload_n 0, 1) from by decide +kernel) rfl
theorem m17_1 : M17 1 ls (.ref (b + 1) :: st) (put (b + 1) pre s A post) Q = M17 4 ls (.int (s 13) :: st) (put (b + 1) pre s A post) Q := w_get (show decode kb17 1 = .ok (.getfield 88, 3) from by decide +kernel) gf_88 put_o rfl
theorem m17_4 : M17 4 ls (.int x :: st) H Q = if x = 0 then M17 7 ls st H Q else M17 9 ls st H Q := w_ifN (show decode kb17 4 = .ok (.ifCond .ne 5, 3) from by decide +kernel) (z_ne x) rfl
theorem m17_7 : M17 7 ls st H Q = M17 8 ls (.int (-1) :: st) H Q := w_con (show decode kb17 7 = .ok (.iconst (-1), 1) from by decide +kernel) rfl (by decide)
theorem m17_8 : M17 8 ls (.int z :: st) H Q = Q (some (.int z)) H := w_iret (show decode kb17 8 = .ok (.ireturn, 1) from by decide +kernel) rfl
theorem m17_9 : M17 9 [.val (.ref r), l1] st H Q = M17 10 [.val (.ref r), l1] (.ref r :: st) H Q := w_x (show decode kb17 9 = .ok (.aload_n 0, 1) from by decide +kernel) rfl
theorem m17_10 : M17 10 [l0, .val (.int v)] st H Q = M17 11 [l0, .val (.int v)] (.int v :: st) H Q := w_x (show decode kb17 10 = .ok (.iload_n 1, 1) from by decide +kernel) rfl
theorem cr17_100 : vR tables_1 dn y17 100 = some (true, y11, prog_1_method_22_code, 2, (some .boolean), 1, 0) := pR_of (cR_of (by decide +kernel) rc_11 dn_11 dn_17 (sig := ⟨[.int], some .boolean⟩) (by decide +kernel) (by decide +kernel) rfl rfl) (by decide +kernel) (by decide +kernel)
theorem m17_11 (a0 : Int32) : M17 11 ls [.int a0, .ref (b + 1)] (put (b + 1) pre s A post) Q = M11 0 [.val (.ref (b + 1)), .val (.int a0)] [] (put (b + 1) pre s A post) (fun v H1 => M17 14 ls (v.toList ++ []) H1 Q) := w_virt (as := [.int a0]) (rest := []) (a := (b + 1)) (show decode kb17 11 = .ok (.invokevirtual 100, 3) from by decide +kernel) cr17_100 put_o rfl rfl (Nat.le_of_ble_eq_true rfl) (by show 2 ≤ 2; omega) rfl
theorem m17_14 : M17 14 ls (.int x :: st) H Q = if x = 0 then M17 17 ls st H Q else M17 20 ls st H Q := w_ifN (show decode kb17 14 = .ok (.ifCond .ne 6, 3) from by decide +kernel) (z_ne x) rfl
theorem m17_17 : M17 17 ls st H Q = M17 19 ls (.int (-2) :: st) H Q := w_con (show decode kb17 17 = .ok (.bipush (-2), 2) from by decide +kernel) rfl (by decide)
theorem m17_19 : M17 19 ls (.int z :: st) H Q = Q (some (.int z)) H := w_iret (show decode kb17 19 = .ok (.ireturn, 1) from by decide +kernel) rfl
theorem m17_20 : M17 20 [.val (.ref r), l1] st H Q = M17 21 [.val (.ref r), l1] (.ref r :: st) H Q := w_x (show decode kb17 20 = .ok (.aload_n 0, 1) from by decide +kernel) rfl
theorem m17_21 : M17 21 ls (.ref (b + 1) :: st) (put (b + 1) pre s A post) Q = M17 24 ls (.int (s 15) :: st) (put (b + 1) pre s A post) Q := w_get (show decode kb17 21 = .ok (.getfield 94, 3) from by decide +kernel) gf_94 put_o rfl
theorem m17_24 : M17 24 ls st H Q = M17 26 ls (.int 16 :: st) H Q := w_con (show decode kb17 24 = .ok (.bipush 16, 2) from by decide +kernel) rfl (by decide)
theorem m17_26 : M17 26 ls (.int y :: .int x :: st) H Q = if x < y then M17 32 ls st H Q else M17 29 ls st H Q := w_icmp (show decode kb17 26 = .ok (.if_icmp .lt 6, 3) from by decide +kernel) (i_lt x y) rfl
theorem m17_29 : M17 29 ls st H Q = M17 31 ls (.int (-3) :: st) H Q := w_con (show decode kb17 29 = .ok (.bipush (-3), 2) from by decide +kernel) rfl (by decide)
theorem m17_31 : M17 31 ls (.int z :: st) H Q = Q (some (.int z)) H := w_iret (show decode kb17 31 = .ok (.ireturn, 1) from by decide +kernel) rfl
theorem m17_32 : M17 32 [.val (.ref r), l1] st H Q = M17 33 [.val (.ref r), l1] (.ref r :: st) H Q := w_x (show decode kb17 32 = .ok (.aload_n 0, 1) from by decide +kernel) rfl
theorem m17_33 : M17 33 ls (.ref (b + 1) :: st) (put (b + 1) pre s A post) Q = M17 36 ls (.int (s 14) :: st) (put (b + 1) pre s A post) Q := w_get (show decode kb17 33 = .ok (.getfield 91, 3) from by decide +kernel) gf_91 put_o rfl
theorem m17_36 : M17 36 [.val (.ref r), l1] st H Q = M17 37 [.val (.ref r), l1] (.ref r :: st) H Q := w_x (show decode kb17 36 = .ok (.aload_n 0, 1) from by decide +kernel) rfl
theorem m17_37 : M17 37 ls (.ref (b + 1) :: st) (put (b + 1) pre s A post) Q = M17 40 ls (.int (s 15) :: st) (put (b + 1) pre s A post) Q := w_get (show decode kb17 37 = .ok (.getfield 94, 3) from by decide +kernel) gf_94 put_o rfl
theorem m17_40 : M17 40 ls (.int y :: .int x :: st) H Q = M17 41 ls (.int (x + y) :: st) H Q := w_x (show decode kb17 40 = .ok (.iadd, 1) from by decide +kernel) rfl
theorem m17_41 : M17 41 ls st H Q = M17 44 ls (.int 256 :: st) H Q := w_con (show decode kb17 41 = .ok (.sipush 256, 3) from by decide +kernel) rfl (by decide)
theorem m17_44 : M17 44 ls (.int y :: .int x :: st) H Q = if x < y then M17 50 ls st H Q else M17 47 ls st H Q := w_icmp (show decode kb17 44 = .ok (.if_icmp .lt 6, 3) from by decide +kernel) (i_lt x y) rfl
theorem m17_47 : M17 47 ls st H Q = M17 49 ls (.int (-5) :: st) H Q := w_con (show decode kb17 47 = .ok (.bipush (-5), 2) from by decide +kernel) rfl (by decide)
theorem m17_49 : M17 49 ls (.int z :: st) H Q = Q (some (.int z)) H := w_iret (show decode kb17 49 = .ok (.ireturn, 1) from by decide +kernel) rfl
theorem m17_50 : M17 50 [.val (.ref r), l1] st H Q = M17 51 [.val (.ref r), l1] (.ref r :: st) H Q := w_x (show decode kb17 50 = .ok (.aload_n 0, 1) from by decide +kernel) rfl
theorem m17_51 : M17 51 ls (.ref (b + 1) :: st) (put (b + 1) pre s A post) Q = M17 54 ls (.int (s 15) :: st) (put (b + 1) pre s A post) Q := w_get (show decode kb17 51 = .ok (.getfield 94, 3) from by decide +kernel) gf_94 put_o rfl
theorem m17_54 : M17 54 ls (.int x :: st) H Q = if x < 0 then M17 57 ls st H Q else M17 60 ls st H Q := w_ifN (show decode kb17 54 = .ok (.ifCond .ge 6, 3) from by decide +kernel) (z_ge x) rfl
theorem m17_57 : M17 57 ls st H Q = M17 59 ls (.int (-3) :: st) H Q := w_con (show decode kb17 57 = .ok (.bipush (-3), 2) from by decide +kernel) rfl (by decide)
theorem m17_59 : M17 59 ls (.int z :: st) H Q = Q (some (.int z)) H := w_iret (show decode kb17 59 = .ok (.ireturn, 1) from by decide +kernel) rfl
theorem m17_60 : M17 60 [.val (.ref r), l1] st H Q = M17 61 [.val (.ref r), l1] (.ref r :: st) H Q := w_x (show decode kb17 60 = .ok (.aload_n 0, 1) from by decide +kernel) rfl
theorem m17_61 : M17 61 ls (.ref (b + 1) :: st) (put (b + 1) pre s A post) Q = M17 64 ls (.ref ((b + 1) + 10) :: st) (put (b + 1) pre s A post) Q := w_get (show decode kb17 61 = .ok (.getfield 38, 3) from by decide +kernel) gf_38 put_o rfl
theorem m17_64 : M17 64 [.val (.ref r), l1] st H Q = M17 65 [.val (.ref r), l1] (.ref r :: st) H Q := w_x (show decode kb17 64 = .ok (.aload_n 0, 1) from by decide +kernel) rfl
theorem m17_65 : M17 65 ls (.ref (b + 1) :: st) (put (b + 1) pre s A post) Q = M17 68 ls (.int (s 15) :: st) (put (b + 1) pre s A post) Q := w_get (show decode kb17 65 = .ok (.getfield 94, 3) from by decide +kernel) gf_94 put_o rfl
theorem m17_68 : M17 68 [l0, .val (.int v)] st H Q = M17 69 [l0, .val (.int v)] (.int v :: st) H Q := w_x (show decode kb17 68 = .ok (.iload_n 1, 1) from by decide +kernel) rfl
theorem m17_69  : M17 69 ls (.int v :: .int j :: .ref ((b + 1) + 10) :: st) (put (b + 1) pre s A post) Q = (inB j (A 9) ∧ M17 70 ls st (put (b + 1) pre s (ou A 9 (setA (A 9) j v)) post) Q) := w_ist (show decode kb17 69 = .ok (.iastore, 1) from by decide +kernel) rfl put_a9 (by omega) rfl put_w9
theorem m17_70 : M17 70 [.val (.ref r), l1] st H Q = M17 71 [.val (.ref r), l1] (.ref r :: st) H Q := w_x (show decode kb17 70 = .ok (.aload_n 0, 1) from by decide +kernel) rfl
theorem m17_71 : M17 71 ls ((.ref r) :: st) H Q = M17 72 ls ((.ref r) :: (.ref r) :: st) H Q := w_x (show decode kb17 71 = .ok (.dup, 1) from by decide +kernel) rfl
theorem m17_72 : M17 72 ls (.ref (b + 1) :: st) (put (b + 1) pre s A post) Q = M17 75 ls (.int (s 15) :: st) (put (b + 1) pre s A post) Q := w_get (show decode kb17 72 = .ok (.getfield 94, 3) from by decide +kernel) gf_94 put_o rfl
theorem m17_75 : M17 75 ls st H Q = M17 76 ls (.int 1 :: st) H Q := w_con (show decode kb17 75 = .ok (.iconst 1, 1) from by decide +kernel) rfl (by decide)
theorem m17_76 : M17 76 ls (.int y :: .int x :: st) H Q = M17 77 ls (.int (x + y) :: st) H Q := w_x (show decode kb17 76 = .ok (.iadd, 1) from by decide +kernel) rfl
theorem pf17_94 : pfR tables_1 y17.cls y17.name 94 = some ("StreamSigScanner", 27, .int) := by decide +kernel
theorem m17_77 : M17 77 ls (.int v :: .ref (b + 1) :: st) (put (b + 1) pre s A post) Q = M17 80 ls st (put (b + 1) pre (ou s 15 v) A post) Q := w_put (show decode kb17 77 = .ok (.putfield 94, 3) from by decide +kernel) pf17_94 put_o (Nat.succ_le_succ (Nat.zero_le _)) (by show 27 < 29; omega) rfl put_s15
theorem m17_80 : M17 80 ls st H Q = M17 81 ls (.int 0 :: st) H Q := w_con (show decode kb17 80 = .ok (.iconst 0, 1) from by decide +kernel) rfl (by decide)
theorem m17_81 : M17 81 ls (.int z :: st) H Q = Q (some (.int z)) H := w_iret (show decode kb17 81 = .ok (.ireturn, 1) from by decide +kernel) rfl
theorem m18_0 : M18 0 [.val (.ref r), l1, l2] st H Q = M18 1 [.val (.ref r), l1, l2] (.ref r :: st) H Q := w_x (show decode kb18 0 = .ok (.aload_n 0, 1) from by decide +kernel) rfl
theorem m18_1 : M18 1 ls (.ref (b + 1) :: st) (put (b + 1) pre s A post) Q = M18 4 ls (.int (s 13) :: st) (put (b + 1) pre s A post) Q := w_get (show decode kb18 1 = .ok (.getfield 88, 3) from by decide +kernel) gf_88 put_o rfl
theorem m18_4 : M18 4 ls (.int x :: st) H Q = if x = 0 then M18 7 ls st H Q else M18 9 ls st H Q := w_ifN (show decode kb18 4 = .ok (.ifCond .ne 5, 3) from by decide +kernel) (z_ne x) rfl
theorem m18_7 : M18 7 ls st H Q = M18 8 ls (.int (-1) :: st) H Q := w_con (show decode kb18 7 = .ok (.iconst (-1), 1) from by decide +kernel) rfl (by decide)
theorem m18_8 : M18 8 ls (.int z :: st) H Q = Q (some (.int z)) H := w_iret (show decode kb18 8 = .ok (.ireturn, 1) from by decide +kernel) rfl
theorem m18_9 : M18 9 [.val (.ref r), l1, l2] st H Q = M18 10 [.val (.ref r), l1, l2] (.ref r :: st) H Q := w_x (show decode kb18 9 = .ok (.aload_n 0, 1) from by decide +kernel) rfl
theorem m18_10 : M18 10 ls (.ref (b + 1) :: st) (put (b + 1) pre s A post) Q = M18 13 ls (.int (s 7) :: st) (put (b + 1) pre s A post) Q := w_get (show decode kb18 10 = .ok (.getfield 70, 3) from by decide +kernel) gf_70 put_o rfl
theorem m18_13u : M18 13 [l0, .unset, l2] ((.int v) :: st) H Q = M18 14 [l0, .val (.int v), l2] st H Q := w_st (i := 1) (p := isI) (show decode kb18 13 = .ok (.istore_n 1, 1) from by decide +kernel) rfl rfl rfl rfl rfl rfl
theorem m18_14 : M18 14 ls st H Q = M18 15 ls (.int 0 :: st) H Q := w_con (show decode kb18 14 = .ok (.iconst 0, 1) from by decide +kernel) rfl (by decide)
theorem m18_15u : M18 15 [l0, l1, .unset] ((.int v) :: st) H Q = M18 16 [l0, l1, .val (.int v)] st H Q := w_st (i := 2) (p := isI) (show decode kb18 15 = .ok (.istore_n 2, 1) from by decide +kernel) rfl rfl rfl rfl rfl rfl
theorem m18_16 : M18 16 [l0, l1, .val (.int v)] st H Q = M18 17 [l0, l1, .val (.int v)] (.int v :: st) H Q := w_x (show decode kb18 16 = .ok (.iload_n 2, 1) from by decide +kernel) rfl
theorem m18_17 : M18 17 [.val (.ref r), l1, l2] st H Q = M18 18 [.val (.ref r), l1, l2] (.ref r :: st) H Q := w_x (show decode kb18 17 = .ok (.aload_n 0, 1) from by decide +kernel) rfl
theorem m18_18 : M18 18 ls (.ref (b + 1) :: st) (put (b + 1) pre s A post) Q = M18 21 ls (.int (s 15) :: st) (put (b + 1) pre s A post) Q := w_get (show decode kb18 18 = .ok (.getfield 94, 3) from by decide +kernel) gf_94 put_o rfl
theorem m18_21 : M18 21 ls (.int y :: .int x :: st) H Q = if x < y then M18 24 ls st H Q else M18 53 ls st H Q := w_icmpN (show decode kb18 21 = .ok (.if_icmp .ge 32, 3) from by decide +kernel) (i_ge x y) rfl
theorem m18_24 : M18 24 [l0, l1, .val (.int v)] st H Q = M18 25 [l0, l1, .val (.int v)] (.int v :: st) H Q := w_x (show decode kb18 24 = .ok (.iload_n 2, 1) from by decide +kernel) rfl
theorem m18_25 : M18 25 ls st H Q = M18 27 ls (.int 16 :: st) H Q := w_con (show decode kb18 25 = .ok (.bipush 16, 2) from by decide +kernel) rfl (by decide)
theorem m18_27 : M18 27 ls (.int y :: .int x :: st) H Q = if x < y then M18 30 ls st H Q else M18 53 ls st H Q := w_icmpN (show decode kb18 27 = .ok (.if_icmp .ge 26, 3) from by decide +kernel) (i_ge x y) rfl
theorem m18_30 : M18 30 [.val (.ref r), l1, l2] st H Q = M18 31 [.val (.ref r), l1, l2] (.ref r :: st) H Q := w_x (show decode kb18 30 = .ok (.aload_n 0, 1) from by decide +kernel) rfl
theorem m18_31 : M18 31 [.val (.ref r), l1, l2] st H Q = M18 32 [.val (.ref r), l1, l2] (.ref r :: st) H Q := w_x (show decode kb18 31 = .ok (.aload_n 0, 1) from by decide +kernel) rfl
theorem m18_32 : M18 32 ls (.ref (b + 1) :: st) (put (b + 1) pre s A post) Q = M18 35 ls (.int (s 14) :: st) (put (b + 1) pre s A post) Q := w_get (show decode kb18 32 = .ok (.getfield 91, 3) from by decide +kernel) gf_91 put_o rfl
theorem m18_35 : M18 35 [l0, l1, .val (.int v)] st H Q = M18 36 [l0, l1, .val (.int v)] (.int v :: st) H Q := w_x (show decode kb18 35 = .ok (.iload_n 2, 1) from by decide +kernel) rfl
theorem m18_36 : M18 36 ls (.int y :: .int x :: st) H Q = M18 37 ls (.int (x + y) :: st) H Q := w_x (show decode kb18 36 = .ok (.iadd, 1) from by decide +kernel) rfl
theorem m18_37 : M18 37 [.val (.ref r), l1, l2] st H Q = M18 38 [.val (.ref r), l1, l2] (.ref r :: st) H Q := w_x (show decode kb18 37 = .ok (.aload_n 0, 1) from by decide +kernel) rfl
theorem m18_38 : M18 38 ls (.ref (b + 1) :: st) (put (b + 1) pre s A post) Q = M18 41 ls (.ref ((b + 1) + 10) :: st) (put (b + 1) pre s A post) Q := w_get (show decode kb18 38 = .ok (.getfield 38, 3) from by decide +kernel) gf_38 put_o rfl
theorem m18_41 : M18 41 [l0, l1, .val (.int v)] st H Q = M18 42 [l0, l1, .val (.int v)] (.int v :: st) H Q := w_x (show decode kb18 41 = .ok (.iload_n 2, 1) from by decide +kernel) rfl
theorem m18_42  : M18 42 ls (.int j :: .ref ((b + 1) + 10) :: st) (put (b + 1) pre s A post) Q = (inB j (A 9) ∧ M18 43 ls (.int (getA (A 9) j) :: st) (put (b + 1) pre s A post) Q) := w_ild (show decode kb18 42 = .ok (.iaload, 1) from by decide +kernel) rfl put_a9
theorem m18_43 : M18 43 [l0, .val (.int v), l2] st H Q = M18 44 [l0, .val (.int v), l2] (.int v :: st) H Q := w_x (show decode kb18 43 = .ok (.iload_n 1, 1) from by decide +kernel) rfl
theorem cr18_120 : vR tables_1 dn y18 120 = some (true, y19, prog_1_method_12_code, 4, none, 3, 19) := pR_of (cR_of (by decide +kernel) rc_19 dn_19 dn_18 (sig := ⟨[.int, .int, .int], none⟩) (by decide +kernel) (by decide +kernel) rfl rfl) (by decide +kernel) (by decide +kernel)
theorem m18_44 (a0 : Int32) (a1 : Int32) (a2 : Int32) : M18 44 ls [.int a2, .int a1, .int a0, .ref (b + 1)] (put (b + 1) pre s A post) Q = M19 0 [.val (.ref (b + 1)), .val (.int a0), .val (.int a1), .val (.int a2)] [] (put (b + 1) pre s A post) (fun v H1 => M18 47 ls (v.toList ++ []) H1 Q) := w_virt (as := [.int a2, .int a1, .int a0]) (rest := []) (a := (b + 1)) (show decode kb18 44 = .ok (.invokevirtual 120, 3) from by decide +kernel) cr18_120 put_o rfl rfl (Nat.le_of_ble_eq_true rfl) (by show 4 ≤ 4; omega) rfl
theorem m18_47 : M18 47 [l0, l1, .val (.int v)] st H Q = M18 50 [l0, l1, .val (.int (v + 1))] st H Q := w_iinc (show decode kb18 47 = .ok (.iinc 2 1, 3) from by decide +kernel) rfl (by decide) rfl
theorem m18_50 : M18 50 ls st H Q = M18 16 ls st H Q := w_x (show decode kb18 50 = .ok (.goto (-34), 3) from by decide +kernel) rfl
theorem m18_53 : M18 53 [.val (.ref r), l1, l2] st H Q = M18 54 [.val (.ref r), l1, l2] (.ref r :: st) H Q := w_x (show decode kb18 53 = .ok (.aload_n 0, 1) from by decide +kernel) rfl
theorem m18_54 : M18 54 ls st H Q = M18 55 ls (.int 0 :: st) H Q := w_con (show decode kb18 54 = .ok (.iconst 0, 1) from by decide +kernel) rfl (by decide)
theorem pf18_88 : pfR tables_1 y18.cls y18.name 88 = some ("StreamSigScanner", 25, .boolean) := by decide +kernel
theorem m18_55 : M18 55 ls (.int v :: .ref (b + 1) :: st) (put (b + 1) pre s A post) Q = M18 58 ls st (put (b + 1) pre (ou s 13 (nar .boolean v)) A post) Q := w_put (show decode kb18 55 = .ok (.putfield 88, 3) from by decide +kernel) pf18_88 put_o (Nat.succ_le_succ (Nat.zero_le _)) (by show 25 < 29; omega) rfl put_s13
theorem m18_58 : M18 58 [.val (.ref r), l1, l2] st H Q = M18 59 [.val (.ref r), l1, l2] (.ref r :: st) H Q := w_x (show decode kb18 58 = .ok (.aload_n 0, 1) from by decide +kernel) rfl
theorem m18_59 : M18 59 ls st H Q = M18 60 ls (.int (-1) :: st) H Q := w_con (show decode kb18 59 = .ok (.iconst (-1), 1) from by decide +kernel) rfl (by decide)
theorem pf18_91 : pfR tables_1 y18.cls y18.name 91 = some ("StreamSigScanner", 26, .int) := by decide +kernel
theorem m18_60 : M18 60 ls (.int v :: .ref (b + 1) :: st) (put (b + 1) pre s A post) Q = M18 63 ls st (put (b + 1) pre (ou s 14 v) A post) Q := w_put (show decode kb18 60 = .ok (.putfield 91, 3) from by decide +kernel) pf18_91 put_o (Nat.succ_le_succ (Nat.zero_le _)) (by show 26 < 29; omega) rfl put_s14
theorem m18_63 : M18 63 [.val (.ref r), l1, l2] st H Q = M18 64 [.val (.ref r), l1, l2] (.ref r :: st) H Q := w_x (show decode kb18 63 = .ok (.aload_n 0, 1) from by decide +kernel) rfl
theorem m18_64 : M18 64 ls st H Q = M18 65 ls (.int 0 :: st) H Q := w_con (show decode kb18 64 = .ok (.iconst 0, 1) from by decide +kernel) rfl (by decide)
theorem pf18_94 : pfR tables_1 y18.cls y18.name 94 = some ("StreamSigScanner", 27, .int) := by decide +kernel
theorem m18_65 : M18 65 ls (.int v :: .ref (b + 1) :: st) (put (b + 1) pre s A post) Q = M18 68 ls st (put (b + 1) pre (ou s 15 v) A post) Q := w_put (show decode kb18 65 = .ok (.putfield 94, 3) from by decide +kernel) pf18_94 put_o (Nat.succ_le_succ (Nat.zero_le _)) (by show 27 < 29; omega) rfl put_s15
theorem m18_68 : M18 68 [.val (.ref r), l1, l2] st H Q = M18 69 [.val (.ref r), l1, l2] (.ref r :: st) H Q := w_x (show decode kb18 68 = .ok (.aload_n 0, 1) from by decide +kernel) rfl
theorem cr18_124 : vR tables_1 dn y18 124 = some (true, y20, prog_1_method_13_code, 4, none, 0, 0) := pR_of (cR_of (by decide +kernel) rc_20 dn_20 dn_18 (sig := ⟨[], none⟩) (by decide +kernel) (by decide +kernel) rfl rfl) (by decide +kernel) (by decide +kernel)
theorem m18_69 : M18 69 ls [.ref (b + 1)] (put (b + 1) pre s A post) Q = M20 0 [.val (.ref (b + 1)), .unset, .unset, .unset] [] (put (b + 1) pre s A post) (fun v H1 => M18 72 ls (v.toList ++ []) H1 Q) := w_virt (as := []) (rest := []) (a := (b + 1)) (show decode kb18 69 = .ok (.invokevirtual 124, 3) from by decide +kernel) cr18_124 put_o rfl rfl (Nat.le_of_ble_eq_true rfl) (by show 1 ≤ 4; omega) rfl
theorem m18_72 : M18 72 [.val (.ref r), l1, l2] st H Q = M18 73 [.val (.ref r), l1, l2] (.ref r :: st) H Q := w_x (show decode kb18 72 = .ok (.aload_n 0, 1) from by decide +kernel) rfl
theorem m18_73 : M18 73 ls (.ref (b + 1) :: st) (put (b + 1) pre s A post) Q = M18 76 ls (.int (s 7) :: st) (put (b + 1) pre s A post) Q := w_get (show decode kb18 73 = .ok (.getfield 70, 3) from by decide +kernel) gf_70 put_o rfl
theorem m18_76 : M18 76 [l0, .val (.int v), l2] st H Q = M18 77 [l0, .val (.int v), l2] (.int v :: st) H Q := w_x (show decode kb18 76 = .ok (.iload_n 1, 1) from by decide +kernel) rfl
theorem m18_77 : M18 77 ls (.int y :: .int x :: st) H Q = M18 78 ls (.int (x - y) :: st) H Q := w_x (show decode kb18 77 = .ok (.isub, 1) from by decide +kernel) rfl
theorem m18_78 : M18 78 ls (.int z :: st) H Q = Q (some (.int z)) H := w_iret (show decode kb18 78 = .ok (.ireturn, 1) from by decide +kernel) rfl
theorem m19_0 : M19 0 [.val (.ref r), l1, l2, l3] st H Q = M19 1 [.val (.ref r), l1, l2, l3] (.ref r :: st) H Q := w_x (show decode kb19 0 = .ok (.aload_n 0, 1) from by decide +kernel) rfl
theorem m19_1 : M19 1 [l0, .val (.int v), l2, l3] st H Q = M19 2 [l0, .val (.int v), l2, l3] (.int v :: st) H Q := w_x (show decode kb19 1 = .ok (.iload_n 1, 1) from by decide +kernel) rfl
theorem cr19_117 : vR tables_1 dn y19 117 = some (true, y5, prog_1_method_23_code, 2, (some .boolean), 1, 0) := pR_of (cR_of (by decide +kernel) rc_5 dn_5 dn_19 (sig := ⟨[.int], some .boolean⟩) (by decide +kernel) (by decide +kernel) rfl rfl) (by decide +kernel) (by decide +kernel)
theorem m19_2 (a0 : Int32) : M19 2 ls [.int a0, .ref (b + 1)] (put (b + 1) pre s A post) Q = M5 0 [.val (.ref (b + 1)), .val (.int a0)] [] (put (b + 1) pre s A post) (fun v H1 => M19 5 ls (v.toList ++ []) H1 Q) := w_virt (as := [.int a0]) (rest := []) (a := (b + 1)) (show decode kb19 2 = .ok (.invokevirtual 117, 3) from by decide +kernel) cr19_117 put_o rfl rfl (Nat.le_of_ble_eq_true rfl) (by show 2 ≤ 2; omega) rfl
theorem m19_5 : M19 5 ls (.int x :: st) H Q = if x = 0 then M19 8 ls st H Q else M19 9 ls st H Q := w_ifN (show decode kb19 5 = .ok (.ifCond .ne 4, 3) from by decide +kernel) (z_ne x) rfl
theorem m19_8 : M19 8 ls [] H Q = Q none H := w_vret (show decode kb19 8 = .ok (.return_, 1) from by decide +kernel) rfl
theorem m19_9 : M19 9 [.val (.ref r), l1, l2, l3] st H Q = M19 10 [.val (.ref r), l1, l2, l3] (.ref r :: st) H Q := w_x (show decode kb19 9 = .ok (.aload_n 0, 1) from by decide +kernel) rfl
theorem m19_10 : M19 10 ls (.ref (b + 1) :: st) (put (b + 1) pre s A post) Q = M19 13 ls (.ref ((b + 1) + 8) :: st) (put (b + 1) pre s A post) Q := w_get (show decode kb19 10 = .ok (.getfield 31, 3) from by decide +kernel) gf_31 put_o rfl
theorem m19_13 : M19 13 [l0, .val (.int v), l2, l3] st H Q = M19 14 [l0, .val (.int v), l2, l3] (.int v :: st) H Q := w_x (show decode kb19 13 = .ok (.iload_n 1, 1) from by decide +kernel) rfl
theorem m19_14  : M19 14 ls (.int j :: .ref ((b + 1) + 8) :: st) (put (b + 1) pre s A post) Q = (inB j (A 7) ∧ M19 15 ls (.int (getA (A 7) j) :: st) (put (b + 1) pre s A post) Q) := w_ild (show decode kb19 14 = .ok (.baload, 1) from by decide +kernel) rfl put_a7
theorem m19_15 : M19 15 ls (.int x :: st) H Q = if x = 0 then M19 57 ls st H Q else M19 18 ls st H Q := w_if (show decode kb19 15 = .ok (.ifCond .eq 42, 3) from by decide +kernel) (z_eq x) rfl
theorem m19_18 : M19 18 [.val (.ref r), l1, l2, l3] st H Q = M19 19 [.val (.ref r), l1, l2, l3] (.ref r :: st) H Q := w_x (show decode kb19 18 = .ok (.aload_n 0, 1) from by decide +kernel) rfl
theorem m19_19 : M19 19 ls (.ref (b + 1) :: st) (put (b + 1) pre s A post) Q = M19 22 ls (.ref ((b + 1) + 9) :: st) (put (b + 1) pre s A post) Q := w_get (show decode kb19 19 = .ok (.getfield 35, 3) from by decide +kernel) gf_35 put_o rfl
theorem m19_22 : M19 22 [l0, .val (.int v), l2, l3] st H Q = M19 23 [l0, .val (.int v), l2, l3] (.int v :: st) H Q := w_x (show decode kb19 22 = .ok (.iload_n 1, 1) from by decide +kernel) rfl
theorem m19_23  : M19 23 ls (.int j :: .ref ((b + 1) + 9) :: st) (put (b + 1) pre s A post) Q = (inB j (A 8) ∧ M19 24 ls (.int (getA (A 8) j) :: st) (put (b + 1) pre s A post) Q) := w_ild (show decode kb19 23 = .ok (.iaload, 1) from by decide +kernel) rfl put_a8
theorem m19_24 : M19 24 [l0, l1, .val (.int v), l3] st H Q = M19 25 [l0, l1, .val (.int v), l3] (.int v :: st) H Q := w_x (show decode kb19 24 = .ok (.iload_n 2, 1) from by decide +kernel) rfl
theorem m19_25 : M19 25 ls (.int y :: .int x :: st) H Q = if x = y then M19 28 ls st H Q else M19 41 ls st H Q := w_icmpN (show decode kb19 25 = .ok (.if_icmp .ne 16, 3) from by decide +kernel) (i_ne x y) rfl
theorem m19_28 : M19 28 [.val (.ref r), l1, l2, l3] st H Q = M19 29 [.val (.ref r), l1, l2, l3] (.ref r :: st) H Q := w_x (show decode kb19 28 = .ok (.aload_n 0, 1) from by decide +kernel) rfl
theorem m19_29 : M19 29 ls ((.ref r) :: st) H Q = M19 30 ls ((.ref r) :: (.ref r) :: st) H Q := w_x (show decode kb19 29 = .ok (.dup, 1) from by decide +kernel) rfl
theorem m19_30 : M19 30 ls (.ref (b + 1) :: st) (put (b + 1) pre s A post) Q = M19 33 ls (.int (s 10) :: st) (put (b + 1) pre s A post) Q := w_get (show decode kb19 30 = .ok (.getfield 79, 3) from by decide +kernel) gf_79 put_o rfl
theorem m19_33 : M19 33 ls st H Q = M19 34 ls (.int 1 :: st) H Q := w_con (show decode kb19 33 = .ok (.iconst 1, 1) from by decide +kernel) rfl (by decide)
theorem m19_34 : M19 34 ls (.int y :: .int x :: st) H Q = M19 35 ls (.int (x + y) :: st) H Q := w_x (show decode kb19 34 = .ok (.iadd, 1) from by decide +kernel) rfl
theorem pf19_79 : pfR tables_1 y19.cls y19.name 79 = some ("StreamSigScanner", 22, .int) := by decide +kernel
theorem m19_35 : M19 35 ls (.int v :: .ref (b + 1) :: st) (put (b + 1) pre s A post) Q = M19 38 ls st (put (b + 1) pre (ou s 10 v) A post) Q := w_put (show decode kb19 35 = .ok (.putfield 79, 3) from by decide +kernel) pf19_79 put_o (Nat.succ_le_succ (Nat.zero_le _)) (by show 22 < 29; omega) rfl put_s10
theorem m19_38 : M19 38 ls st H Q = M19 56 ls st H Q := w_x (show decode kb19 38 = .ok (.goto 18, 3) from by decide +kernel) rfl
theorem m19_41 : M19 41 [.val (.ref r), l1, l2, l3] st H Q = M19 42 [.val (.ref r), l1, l2, l3] (.ref r :: st) H Q := w_x (show decode kb19 41 = .ok (.aload_n 0, 1) from by decide +kernel) rfl
theorem m19_42 : M19 42 ls ((.ref r) :: st) H Q = M19 43 ls ((.ref r) :: (.ref r) :: st) H Q := w_x (show decode kb19 42 = .ok (.dup, 1) from by decide +kernel) rfl
theorem m19_43 : M19 43 ls (.ref (b + 1) :: st) (put (b + 1) pre s A post) Q = M19 46 ls (.int (s 9) :: st) (put (b + 1) pre s A post) Q := w_get (show decode kb19 43 = .ok (.getfield 76, 3) from by decide +kernel) gf_76 put_o rfl
theorem m19_46 : M19 46 ls st H Q = M19 47 ls (.int 1 :: st) H Q := w_con (show decode kb19 46 = .ok (.iconst 1, 1) from by decide +kernel) rfl (by decide)
theorem m19_47 : M19 47 ls (.int y :: .int x :: st) H Q = M19 48 ls (.int (x + y) :: st) H Q := w_x (show decode kb19 47 = .ok (.iadd, 1) from by decide +kernel) rfl
theorem pf19_76 : pfR tables_1 y19.cls y19.name 76 = some ("StreamSigScanner", 21, .int) := by decide +kernel
theorem m19_48 : M19 48 ls (.int v :: .ref (b + 1) :: st) (put (b + 1) pre s A post) Q = M19 51 ls st (put (b + 1) pre (ou s 9 v) A post) Q := w_put (show decode kb19 48 = .ok (.putfield 76, 3) from by decide +kernel) pf19_76 put_o (Nat.succ_le_succ (Nat.zero_le _)) (by show 21 < 29; omega) rfl put_s9
theorem m19_51 : M19 51 [.val (.ref r), l1, l2, l3] st H Q = M19 52 [.val (.ref r), l1, l2, l3] (.ref r :: st) H Q := w_x (show decode kb19 51 = .ok (.aload_n 0, 1) from by decide +kernel) rfl
theorem m19_52 : M19 52 [l0, .val (.int v), l2, l3] st H Q = M19 53 [l0, .val (.int v), l2, l3] (.int v :: st) H Q := w_x (show decode kb19 52 = .ok (.iload_n 1, 1) from by decide +kernel) rfl
theorem pf19_85 : pfR tables_1 y19.cls y19.name 85 = some ("StreamSigScanner", 24, .int) := by decide +kernel
theorem m19_53 : M19 53 ls (.int v :: .ref (b + 1) :: st) (put (b + 1) pre s A post) Q = M19 56 ls st (put (b + 1) pre (ou s 12 v) A post) Q := w_put (show decode kb19 53 = .ok (.putfield 85, 3) from by decide +kernel) pf19_85 put_o (Nat.succ_le_succ (Nat.zero_le _)) (by show 24 < 29; omega) rfl put_s12
theorem m19_56 : M19 56 ls [] H Q = Q none H := w_vret (show decode kb19 56 = .ok (.return_, 1) from by decide +kernel) rfl
theorem m19_57 : M19 57 [l0, .val (.int v), l2, l3] st H Q = M19 58 [l0, .val (.int v), l2, l3] (.int v :: st) H Q := w_x (show decode kb19 57 = .ok (.iload_n 1, 1) from by decide +kernel) rfl
theorem m19_58 : M19 58 [l0, l1, l2, .val (.int v)] st H Q = M19 59 [l0, l1, l2, .val (.int v)] (.int v :: st) H Q := w_x (show decode kb19 58 = .ok (.iload_n 3, 1) from by decide +kernel) rfl
theorem m19_59 : M19 59 [.val (.ref r), l1, l2, l3] st H Q = M19 60 [.val (.ref r), l1, l2, l3] (.ref r :: st) H Q := w_x (show decode kb19 59 = .ok (.aload_n 0, 1) from by decide +kernel) rfl
theorem m19_60 : M19 60 ls (.ref (b + 1) :: st) (put (b + 1) pre s A post) Q = M19 63 ls (.int (s 0) :: st) (put (b + 1) pre s A post) Q := w_get (show decode kb19 60 = .ok (.getfield 47, 3) from by decide +kernel) gf_47 put_o rfl
theorem m19_63 : M19 63 ls (.int y :: .int x :: st) H Q = M19 64 ls (.int (x + y) :: st) H Q := w_x (show decode kb19 63 = .ok (.iadd, 1) from by decide +kernel) rfl
theorem m19_64 : M19 64 ls (.int y :: .int x :: st) H Q = if x < y then M19 78 ls st H Q else M19 67 ls st H Q := w_icmp (show decode kb19 64 = .ok (.if_icmp .lt 14, 3) from by decide +kernel) (i_lt x y) rfl
theorem m19_67 : M19 67 [.val (.ref r), l1, l2, l3] st H Q = M19 68 [.val (.ref r), l1, l2, l3] (.ref r :: st) H Q := w_x (show decode kb19 67 = .ok (.aload_n 0, 1) from by decide +kernel) rfl
theorem m19_68 : M19 68 ls ((.ref r) :: st) H Q = M19 69 ls ((.ref r) :: (.ref r) :: st) H Q := w_x (show decode kb19 68 = .ok (.dup, 1) from by decide +kernel) rfl
theorem m19_69 : M19 69 ls (.ref (b + 1) :: st) (put (b + 1) pre s A post) Q = M19 72 ls (.int (s 11) :: st) (put (b + 1) pre s A post) Q := w_get (show decode kb19 69 = .ok (.getfield 82, 3) from by decide +kernel) gf_82 put_o rfl
theorem m19_72 : M19 72 ls st H Q = M19 73 ls (.int 1 :: st) H Q := w_con (show decode kb19 72 = .ok (.iconst 1, 1) from by decide +kernel) rfl (by decide)
theorem m19_73 : M19 73 ls (.int y :: .int x :: st) H Q = M19 74 ls (.int (x + y) :: st) H Q := w_x (show decode kb19 73 = .ok (.iadd, 1) from by decide +kernel) rfl
theorem pf19_82 : pfR tables_1 y19.cls y19.name 82 = some ("StreamSigScanner", 23, .int) := by decide +kernel
theorem m19_74 : M19 74 ls (.int v :: .ref (b + 1) :: st) (put (b + 1) pre s A post) Q = M19 77 ls st (put (b + 1) pre (ou s 11 v) A post) Q := w_put (show decode kb19 74 = .ok (.putfield 82, 3) from by decide +kernel) pf19_82 put_o (Nat.succ_le_succ (Nat.zero_le _)) (by show 23 < 29; omega) rfl put_s11
theorem m19_77 : M19 77 ls [] H Q = Q none H := w_vret (show decode kb19 77 = .ok (.return_, 1) from by decide +kernel) rfl
theorem m19_78 : M19 78 [.val (.ref r), l1, l2, l3] st H Q = M19 79 [.val (.ref r), l1, l2, l3] (.ref r :: st) H Q := w_x (show decode kb19 78 = .ok (.aload_n 0, 1) from by decide +kernel) rfl
theorem m19_79 : M19 79 ls (.ref (b + 1) :: st) (put (b + 1) pre s A post) Q = M19 82 ls (.ref ((b + 1) + 8) :: st) (put (b + 1) pre s A post) Q := w_get (show decode kb19 79 = .ok (.getfield 31, 3) from by decide +kernel) gf_31 put_o rfl
theorem m19_82 : M19 82 [l0, .val (.int v), l2, l3] st H Q = M19 83 [l0, .val (.int v), l2, l3] (.int v :: st) H Q := w_x (show decode kb19 82 = .ok (.iload_n 1, 1) from by decide +kernel) rfl
theorem m19_83 : M19 83 ls st H Q = M19 84 ls (.int 1 :: st) H Q := w_con (show decode kb19 83 = .ok (.iconst 1, 1) from by decide +kernel) rfl (by decide)
theorem m19_84  : M19 84 ls (.int v :: .int j :: .ref ((b + 1) + 8) :: st) (put (b + 1) pre s A post) Q = (inB j (A 7) ∧ M19 85 ls st (put (b + 1) pre s (ou A 7 (setA (A 7) j (nar .boolean v))) post) Q) := w_ist (show decode kb19 84 = .ok (.bastore, 1) from by decide +kernel) rfl put_a7 (by omega) rfl put_w7
theorem m19_85 : M19 85 [.val (.ref r), l1, l2, l3] st H Q = M19 86 [.val (.ref r), l1, l2, l3] (.ref r :: st) H Q := w_x (show decode kb19 85 = .ok (.aload_n 0, 1) from by decide +kernel) rfl
theorem m19_86 : M19 86 ls (.ref (b + 1) :: st) (put (b + 1) pre s A post) Q = M19 89 ls (.ref ((b + 1) + 9) :: st) (put (b + 1) pre s A post) Q := w_get (show decode kb19 86 = .ok (.getfield 35, 3) from by decide +kernel) gf_35 put_o rfl
theorem m19_89 : M19 89 [l0, .val (.int v), l2, l3] st H Q = M19 90 [l0, .val (.int v), l2, l3] (.int v :: st) H Q := w_x (show decode kb19 89 = .ok (.iload_n 1, 1) from by decide +kernel) rfl
theorem m19_90 : M19 90 [l0, l1, .val (.int v), l3] st H Q = M19 91 [l0, l1, .val (.int v), l3] (.int v :: st) H Q := w_x (show decode kb19 90 = .ok (.iload_n 2, 1) from by decide +kernel) rfl
theorem m19_91  : M19 91 ls (.int v :: .int j :: .ref ((b + 1) + 9) :: st) (put (b + 1) pre s A post) Q = (inB j (A 8) ∧ M19 92 ls st (put (b + 1) pre s (ou A 8 (setA (A 8) j v)) post) Q) := w_ist (show decode kb19 91 = .ok (.iastore, 1) from by decide +kernel) rfl put_a8 (by omega) rfl put_w8
theorem m19_92 : M19 92 [.val (.ref r), l1, l2, l3] st H Q = M19 93 [.val (.ref r), l1, l2, l3] (.ref r :: st) H Q := w_x (show decode kb19 92 = .ok (.aload_n 0, 1) from by decide +kernel) rfl
theorem m19_93 : M19 93 ls ((.ref r) :: st) H Q = M19 94 ls ((.ref r) :: (.ref r) :: st) H Q := w_x (show decode kb19 93 = .ok (.dup, 1) from by decide +kernel) rfl
theorem m19_94 : M19 94 ls (.ref (b + 1) :: st) (put (b + 1) pre s A post) Q = M19 97 ls (.int (s 8) :: st) (put (b + 1) pre s A post) Q := w_get (show decode kb19 94 = .ok (.getfield 73, 3) from by decide +kernel) gf_73 put_o rfl
theorem m19_97 : M19 97 ls st H Q = M19 98 ls (.int 1 :: st) H Q := w_con (show decode kb19 97 = .ok (.iconst 1, 1) from by decide +kernel) rfl (by decide)
theorem m19_98 : M19 98 ls (.int y :: .int x :: st) H Q = M19 99 ls (.int (x + y) :: st) H Q := w_x (show decode kb19 98 = .ok (.iadd, 1) from by decide +kernel) rfl
theorem pf19_73 : pfR tables_1 y19.cls y19.name 73 = some ("StreamSigScanner", 20, .int) := by decide +kernel
theorem m19_99 : M19 99 ls (.int v :: .ref (b + 1) :: st) (put (b + 1) pre s A post) Q = M19 102 ls st (put (b + 1) pre (ou s 8 v) A post) Q := w_put (show decode kb19 99 = .ok (.putfield 73, 3) from by decide +kernel) pf19_73 put_o (Nat.succ_le_succ (Nat.zero_le _)) (by show 20 < 29; omega) rfl put_s8
theorem m19_102 : M19 102 ls [] H Q = Q none H := w_vret (show decode kb19 102 = .ok (.return_, 1) from by decide +kernel) rfl
theorem m20_0 : M20 0 ls st H Q = M20 1 ls (.int 0 :: st) H Q := w_con (show decode kb20 0 = .ok (.iconst 0, 1) from by decide +kernel) rfl (by decide)
theorem m20_1u : M20 1 [l0, .unset, l2, l3] ((.int v) :: st) H Q = M20 2 [l0, .val (.int v), l2, l3] st H Q := w_st (i := 1) (p := isI) (show decode kb20 1 = .ok (.istore_n 1, 1) from by decide +kernel) rfl rfl rfl rfl rfl rfl
theorem m20_2 : M20 2 [l0, .val (.int v), l2, l3] st H Q = M20 3 [l0, .val (.int v), l2, l3] (.int v :: st) H Q := w_x (show decode kb20 2 = .ok (.iload_n 1, 1) from by decide +kernel) rfl
theorem m20_3 : M20 3 ls st H Q = M20 6 ls (.int 256 :: st) H Q := w_con (show decode kb20 3 = .ok (.sipush 256, 3) from by decide +kernel) rfl (by decide)
theorem m20_6 : M20 6 ls (.int y :: .int x :: st) H Q = if x < y then M20 9 ls st H Q else M20 73 ls st H Q := w_icmpN (show decode kb20 6 = .ok (.if_icmp .ge 67, 3) from by decide +kernel) (i_ge x y) rfl
theorem m20_9 : M20 9 [.val (.ref r), l1, l2, l3] st H Q = M20 10 [.val (.ref r), l1, l2, l3] (.ref r :: st) H Q := w_x (show decode kb20 9 = .ok (.aload_n 0, 1) from by decide +kernel) rfl
theorem m20_10 : M20 10 ls (.ref (b + 1) :: st) (put (b + 1) pre s A post) Q = M20 13 ls (.int (s 7) :: st) (put (b + 1) pre s A post) Q := w_get (show decode kb20 10 = .ok (.getfield 70, 3) from by decide +kernel) gf_70 put_o rfl
theorem m20_13 : M20 13 ls st H Q = M20 16 ls (.int 256 :: st) H Q := w_con (show decode kb20 13 = .ok (.sipush 256, 3) from by decide +kernel) rfl (by decide)
theorem m20_16 : M20 16 ls (.int y :: .int x :: st) H Q = if x < y then M20 19 ls st H Q else M20 31 ls st H Q := w_icmpN (show decode kb20 16 = .ok (.if_icmp .ge 15, 3) from by decide +kernel) (i_ge x y) rfl
theorem m20_19 : M20 19 [.val (.ref r), l1, l2, l3] st H Q = M20 20 [.val (.ref r), l1, l2, l3] (.ref r :: st) H Q := w_x (show decode kb20 19 = .ok (.aload_n 0, 1) from by decide +kernel) rfl
theorem m20_20 : M20 20 ls (.ref (b + 1) :: st) (put (b + 1) pre s A post) Q = M20 23 ls (.ref ((b + 1) + 8) :: st) (put (b + 1) pre s A post) Q := w_get (show decode kb20 20 = .ok (.getfield 31, 3) from by decide +kernel) gf_31 put_o rfl
theorem m20_23 : M20 23 [.val (.ref r), l1, l2, l3] st H Q = M20 24 [.val (.ref r), l1, l2, l3] (.ref r :: st) H Q := w_x (show decode kb20 23 = .ok (.aload_n 0, 1) from by decide +kernel) rfl
theorem m20_24 : M20 24 ls (.ref (b + 1) :: st) (put (b + 1) pre s A post) Q = M20 27 ls (.int (s 7) :: st) (put (b + 1) pre s A post) Q := w_get (show decode kb20 24 = .ok (.getfield 70, 3) from by decide +kernel) gf_70 put_o rfl
theorem m20_27  : M20 27 ls (.int j :: .ref ((b + 1) + 8) :: st) (put (b + 1) pre s A post) Q = (inB j (A 7) ∧ M20 28 ls (.int (getA (A 7) j) :: st) (put (b + 1) pre s A post) Q) := w_ild (show decode kb20 27 = .ok (.baload, 1) from by decide +kernel) rfl put_a7
theorem m20_28 : M20 28 ls (.int x :: st) H Q = if x = 0 then M20 31 ls st H Q else M20 32 ls st H Q := w_ifN (show decode kb20 28 = .ok (.ifCond .ne 4, 3) from by decide +kernel) (z_ne x) rfl
theorem m20_31 : M20 31 ls [] H Q = Q none H := w_vret (show decode kb20 31 = .ok (.return_, 1) from by decide +kernel) rfl
theorem m20_32 : M20 32 [.val (.ref r), l1, l2, l3] st H Q = M20 33 [.val (.ref r), l1, l2, l3] (.ref r :: st) H Q := w_x (show decode kb20 32 = .ok (.aload_n 0, 1) from by decide +kernel) rfl
theorem m20_33 : M20 33 ls (.ref (b + 1) :: st) (put (b + 1) pre s A post) Q = M20 36 ls (.int (s 7) :: st) (put (b + 1) pre s A post) Q := w_get (show decode kb20 33 = .ok (.getfield 70, 3) from by decide +kernel) gf_70 put_o rfl
theorem m20_36u : M20 36 [l0, l1, .unset, l3] ((.int v) :: st) H Q = M20 37 [l0, l1, .val (.int v), l3] st H Q := w_st (i := 2) (p := isI) (show decode kb20 36 = .ok (.istore_n 2, 1) from by decide +kernel) rfl rfl rfl rfl rfl rfl
theorem m20_36i : M20 36 [l0, l1, .val (.int z), l3] ((.int v) :: st) H Q = M20 37 [l0, l1, .val (.int v), l3] st H Q := w_st (i := 2) (p := isI) (show decode kb20 36 = .ok (.istore_n 2, 1) from by decide +kernel) rfl rfl rfl rfl rfl rfl
theorem m20_36r : M20 36 [l0, l1, .val (.ref q), l3] ((.int v) :: st) H Q = M20 37 [l0, l1, .val (.int v), l3] st H Q := w_st (i := 2) (p := isI) (show decode kb20 36 = .ok (.istore_n 2, 1) from by decide +kernel) rfl rfl rfl rfl rfl rfl
theorem m20_36g (h : okS l2) : M20 36 [l0, l1, l2, l3] ((.int v) :: st) H Q = M20 37 [l0, l1, .val (.int v), l3] st H Q := by rcases h with rfl | ⟨z, rfl⟩ <;> first | exact m20_36u | exact m20_36i
theorem m20_37 : M20 37 [.val (.ref r), l1, l2, l3] st H Q = M20 38 [.val (.ref r), l1, l2, l3] (.ref r :: st) H Q := w_x (show decode kb20 37 = .ok (.aload_n 0, 1) from by decide +kernel) rfl
theorem m20_38 : M20 38 ls (.ref (b + 1) :: st) (put (b + 1) pre s A post) Q = M20 41 ls (.ref ((b + 1) + 9) :: st) (put (b + 1) pre s A post) Q := w_get (show decode kb20 38 = .ok (.getfield 35, 3) from by decide +kernel) gf_35 put_o rfl
theorem m20_41 : M20 41 [l0, l1, .val (.int v), l3] st H Q = M20 42 [l0, l1, .val (.int v), l3] (.int v :: st) H Q := w_x (show decode kb20 41 = .ok (.iload_n 2, 1) from by decide +kernel) rfl
theorem m20_42  : M20 42 ls (.int j :: .ref ((b + 1) + 9) :: st) (put (b + 1) pre s A post) Q = (inB j (A 8) ∧ M20 43 ls (.int (getA (A 8) j) :: st) (put (b + 1) pre s A post) Q) := w_ild (show decode kb20 42 = .ok (.iaload, 1) from by decide +kernel) rfl put_a8
theorem m20_43u : M20 43 [l0, l1, l2, .unset] ((.int v) :: st) H Q = M20 44 [l0, l1, l2, .val (.int v)] st H Q := w_st (i := 3) (p := isI) (show decode kb20 43 = .ok (.istore_n 3, 1) from by decide +kernel) rfl rfl rfl rfl rfl rfl
theorem m20_43i : M20 43 [l0, l1, l2, .val (.int z)] ((.int v) :: st) H Q = M20 44 [l0, l1, l2, .val (.int v)] st H Q := w_st (i := 3) (p := isI) (show decode kb20 43 = .ok (.istore_n 3, 1) from by decide +kernel) rfl rfl rfl rfl rfl rfl
theorem m20_43r : M20 43 [l0, l1, l2, .val (.ref q)] ((.int v) :: st) H Q = M20 44 [l0, l1, l2, .val (.int v)] st H Q := w_st (i := 3) (p := isI) (show decode kb20 43 = .ok (.istore_n 3, 1) from by decide +kernel) rfl rfl rfl rfl rfl rfl
theorem m20_43g (h : okS l3) : M20 43 [l0, l1, l2, l3] ((.int v) :: st) H Q = M20 44 [l0, l1, l2, .val (.int v)] st H Q := by rcases h with rfl | ⟨z, rfl⟩ <;> first | exact m20_43u | exact m20_43i
theorem m20_44 : M20 44 [.val (.ref r), l1, l2, l3] st H Q = M20 45 [.val (.ref r), l1, l2, l3] (.ref r :: st) H Q := w_x (show decode kb20 44 = .ok (.aload_n 0, 1) from by decide +kernel) rfl
theorem m20_45 : M20 45 [l0, l1, .val (.int v), l3] st H Q = M20 46 [l0, l1, .val (.int v), l3] (.int v :: st) H Q := w_x (show decode kb20 45 = .ok (.iload_n 2, 1) from by decide +kernel) rfl
theorem m20_46 : M20 46 ls st H Q = M20 47 ls (.int 1 :: st) H Q := w_con (show decode kb20 46 = .ok (.iconst 1, 1) from by decide +kernel) rfl (by decide)
theorem m20_47 : M20 47 ls (.int y :: .int x :: st) H Q = M20 48 ls (.int (x + y) :: st) H Q := w_x (show decode kb20 47 = .ok (.iadd, 1) from by decide +kernel) rfl
theorem pf20_70 : pfR tables_1 y20.cls y20.name 70 = some ("StreamSigScanner", 19, .int) := by decide +kernel
theorem m20_48 : M20 48 ls (.int v :: .ref (b + 1) :: st) (put (b + 1) pre s A post) Q = M20 51 ls st (put (b + 1) pre (ou s 7 v) A post) Q := w_put (show decode kb20 48 = .ok (.putfield 70, 3) from by decide +kernel) pf20_70 put_o (Nat.succ_le_succ (Nat.zero_le _)) (by show 19 < 29; omega) rfl put_s7
theorem m20_51 : M20 51 [.val (.ref r), l1, l2, l3] st H Q = M20 52 [.val (.ref r), l1, l2, l3] (.ref r :: st) H Q := w_x (show decode kb20 51 = .ok (.aload_n 0, 1) from by decide +kernel) rfl
theorem m20_52 : M20 52 ls ((.ref r) :: st) H Q = M20 53 ls ((.ref r) :: (.ref r) :: st) H Q := w_x (show decode kb20 52 = .ok (.dup, 1) from by decide +kernel) rfl
theorem m20_53 : M20 53 ls (.ref (b + 1) :: st) (put (b + 1) pre s A post) Q = M20 56 ls (.int (s 8) :: st) (put (b + 1) pre s A post) Q := w_get (show decode kb20 53 = .ok (.getfield 73, 3) from by decide +kernel) gf_73 put_o rfl
theorem m20_56 : M20 56 ls st H Q = M20 57 ls (.int 1 :: st) H Q := w_con (show decode kb20 56 = .ok (.iconst 1, 1) from by decide +kernel) rfl (by decide)
theorem m20_57 : M20 57 ls (.int y :: .int x :: st) H Q = M20 58 ls (.int (x - y) :: st) H Q := w_x (show decode kb20 57 = .ok (.isub, 1) from by decide +kernel) rfl
theorem pf20_73 : pfR tables_1 y20.cls y20.name 73 = some ("StreamSigScanner", 20, .int) := by decide +kernel
theorem m20_58 : M20 58 ls (.int v :: .ref (b + 1) :: st) (put (b + 1) pre s A post) Q = M20 61 ls st (put (b + 1) pre (ou s 8 v) A post) Q := w_put (show decode kb20 58 = .ok (.putfield 73, 3) from by decide +kernel) pf20_73 put_o (Nat.succ_le_succ (Nat.zero_le _)) (by show 20 < 29; omega) rfl put_s8
theorem m20_61 : M20 61 [.val (.ref r), l1, l2, l3] st H Q = M20 62 [.val (.ref r), l1, l2, l3] (.ref r :: st) H Q := w_x (show decode kb20 61 = .ok (.aload_n 0, 1) from by decide +kernel) rfl
theorem m20_62 : M20 62 [l0, l1, .val (.int v), l3] st H Q = M20 63 [l0, l1, .val (.int v), l3] (.int v :: st) H Q := w_x (show decode kb20 62 = .ok (.iload_n 2, 1) from by decide +kernel) rfl
theorem m20_63 : M20 63 [l0, l1, l2, .val (.int v)] st H Q = M20 64 [l0, l1, l2, .val (.int v)] (.int v :: st) H Q := w_x (show decode kb20 63 = .ok (.iload_n 3, 1) from by decide +kernel) rfl
theorem cr20_127 : vR tables_1 dn y20 127 = some (true, y21, prog_1_method_14_code, 7, none, 2, 0) := pR_of (cR_of (by decide +kernel) rc_21 dn_21 dn_20 (sig := ⟨[.int, .int], none⟩) (by decide +kernel) (by decide +kernel) rfl rfl) (by decide +kernel) (by decide +kernel)
theorem m20_64 (a0 : Int32) (a1 : Int32) : M20 64 ls [.int a1, .int a0, .ref (b + 1)] (put (b + 1) pre s A post) Q = M21 0 [.val (.ref (b + 1)), .val (.int a0), .val (.int a1), .unset, .unset, .unset, .unset] [] (put (b + 1) pre s A post) (fun v H1 => M20 67 ls (v.toList ++ []) H1 Q) := w_virt (as := [.int a1, .int a0]) (rest := []) (a := (b + 1)) (show decode kb20 64 = .ok (.invokevirtual 127, 3) from by decide +kernel) cr20_127 put_o rfl rfl (Nat.le_of_ble_eq_true rfl) (by show 3 ≤ 7; omega) rfl
theorem m20_67 : M20 67 [l0, .val (.int v), l2, l3] st H Q = M20 70 [l0, .val (.int (v + 1)), l2, l3] st H Q := w_iinc (show decode kb20 67 = .ok (.iinc 1 1, 3) from by decide +kernel) rfl (by decide) rfl
theorem m20_70 : M20 70 ls st H Q = M20 2 ls st H Q := w_x (show decode kb20 70 = .ok (.goto (-68), 3) from by decide +kernel) rfl
theorem m20_73 : M20 73 ls [] H Q = Q none H := w_vret (show decode kb20 73 = .ok (.return_, 1) from by decide +kernel) rfl
theorem m21_0 : M21 0 [.val (.ref r), l1, l2, l3, l4, l5, l6] st H Q = M21 1 [.val (.ref r), l1, l2, l3, l4, l5, l6] (.ref r :: st) H Q := w_x (show decode kb21 0 = .ok (.aload_n 0, 1) from by decide +kernel) rfl
theorem m21_1 : M21 1 ls (.ref (b + 1) :: st) (put (b + 1) pre s A post) Q = M21 4 ls (.int (s 6) :: st) (put (b + 1) pre s A post) Q := w_get (show decode kb21 1 = .ok (.getfield 67, 3) from by decide +kernel) gf_67 put_o rfl
theorem m21_4 : M21 4 ls st H Q = M21 7 ls (.int 256 :: st) H Q := w_con (show decode kb21 4 = .ok (.sipush 256, 3) from by decide +kernel) rfl (by decide)
theorem m21_7 : M21 7 ls (.int y :: .int x :: st) H Q = M21 8 ls (.int (x * y) :: st) H Q := w_x (show decode kb21 7 = .ok (.imul, 1) from by decide +kernel) rfl
theorem m21_8 : M21 8 [l0, l1, .val (.int v), l3, l4, l5, l6] st H Q = M21 9 [l0, l1, .val (.int v), l3, l4, l5, l6] (.int v :: st) H Q := w_x (show decode kb21 8 = .ok (.iload_n 2, 1) from by decide +kernel) rfl
theorem m21_9 : M21 9 ls (.int y :: .int x :: st) H Q = M21 10 ls (.int (x + y) :: st) H Q := w_x (show decode kb21 9 = .ok (.iadd, 1) from by decide +kernel) rfl
theorem m21_10u : M21 10 [l0, l1, l2, .unset, l4, l5, l6] ((.int v) :: st) H Q = M21 11 [l0, l1, l2, .val (.int v), l4, l5, l6] st H Q := w_st (i := 3) (p := isI) (show decode kb21 10 = .ok (.istore_n 3, 1) from by decide +kernel) rfl rfl rfl rfl rfl rfl
theorem m21_11 : M21 11 [l0, l1, l2, .val (.int v), l4, l5, l6] st H Q = M21 12 [l0, l1, l2, .val (.int v), l4, l5, l6] (.int v :: st) H Q := w_x (show decode kb21 11 = .ok (.iload_n 3, 1) from by decide +kernel) rfl
theorem m21_12 : M21 12 ls (.int x :: st) H Q = if x < 0 then M21 22 ls st H Q else M21 15 ls st H Q := w_if (show decode kb21 12 = .ok (.ifCond .lt 10, 3) from by decide +kernel) (z_lt x) rfl
theorem m21_15 : M21 15 [l0, l1, l2, .val (.int v), l4, l5, l6] st H Q = M21 16 [l0, l1, l2, .val (.int v), l4, l5, l6] (.int v :: st) H Q := w_x (show decode kb21 15 = .ok (.iload_n 3, 1) from by decide +kernel) rfl
theorem m21_16 : M21 16 ls st H Q = M21 19 ls (.int 16640 :: st) H Q := w_con (show decode kb21 16 = .ok (.sipush 16640, 3) from by decide +kernel) rfl (by decide)
theorem m21_19 : M21 19 ls (.int y :: .int x :: st) H Q = if x < y then M21 28 ls st H Q else M21 22 ls st H Q := w_icmp (show decode kb21 19 = .ok (.if_icmp .lt 9, 3) from by decide +kernel) (i_lt x y) rfl
theorem m21_22 : M21 22 [.val (.ref r), l1, l2, l3, l4, l5, l6] st H Q = M21 23 [.val (.ref r), l1, l2, l3, l4, l5, l6] (.ref r :: st) H Q := w_x (show decode kb21 22 = .ok (.aload_n 0, 1) from by decide +kernel) rfl
theorem m21_23 : M21 23 ls st H Q = M21 24 ls (.int 0 :: st) H Q := w_con (show decode kb21 23 = .ok (.iconst 0, 1) from by decide +kernel) rfl (by decide)
theorem pf21_67 : pfR tables_1 y21.cls y21.name 67 = some ("StreamSigScanner", 18, .int) := by decide +kernel
theorem m21_24 : M21 24 ls (.int v :: .ref (b + 1) :: st) (put (b + 1) pre s A post) Q = M21 27 ls st (put (b + 1) pre (ou s 6 v) A post) Q := w_put (show decode kb21 24 = .ok (.putfield 67, 3) from by decide +kernel) pf21_67 put_o (Nat.succ_le_succ (Nat.zero_le _)) (by show 18 < 29; omega) rfl put_s6
theorem m21_27 : M21 27 ls [] H Q = Q none H := w_vret (show decode kb21 27 = .ok (.return_, 1) from by decide +kernel) rfl
theorem m21_28 : M21 28 [.val (.ref r), l1, l2, l3, l4, l5, l6] st H Q = M21 29 [.val (.ref r), l1, l2, l3, l4, l5, l6] (.ref r :: st) H Q := w_x (show decode kb21 28 = .ok (.aload_n 0, 1) from by decide +kernel) rfl
theorem m21_29 : M21 29 ls (.ref (b + 1) :: st) (put (b + 1) pre s A post) Q = M21 32 ls (.ref ((b + 1) + 4) :: st) (put (b + 1) pre s A post) Q := w_get (show decode kb21 29 = .ok (.getfield 19, 3) from by decide +kernel) gf_19 put_o rfl
theorem m21_32 : M21 32 [l0, l1, l2, .val (.int v), l4, l5, l6] st H Q = M21 33 [l0, l1, l2, .val (.int v), l4, l5, l6] (.int v :: st) H Q := w_x (show decode kb21 32 = .ok (.iload_n 3, 1) from by decide +kernel) rfl
theorem m21_33  : M21 33 ls (.int j :: .ref ((b + 1) + 4) :: st) (put (b + 1) pre s A post) Q = (inB j (A 3) ∧ M21 34 ls (.int (getA (A 3) j) :: st) (put (b + 1) pre s A post) Q) := w_ild (show decode kb21 33 = .ok (.iaload, 1) from by decide +kernel) rfl put_a3
theorem m21_34u : M21 34 [l0, l1, l2, l3, .unset, l5, l6] ((.int v) :: st) H Q = M21 36 [l0, l1, l2, l3, .val (.int v), l5, l6] st H Q := w_st (i := 4) (p := isI) (show decode kb21 34 = .ok (.istore 4, 2) from by decide +kernel) rfl rfl rfl rfl rfl rfl
theorem m21_36 : M21 36 [l0, l1, l2, l3, .val (.int v), l5, l6] st H Q = M21 38 [l0, l1, l2, l3, .val (.int v), l5, l6] (.int v :: st) H Q := w_x (show decode kb21 36 = .ok (.iload 4, 2) from by decide +kernel) rfl
theorem m21_38 : M21 38 ls (.int x :: st) H Q = if x < 0 then M21 48 ls st H Q else M21 41 ls st H Q := w_if (show decode kb21 38 = .ok (.ifCond .lt 10, 3) from by decide +kernel) (z_lt x) rfl
theorem m21_41 : M21 41 [l0, l1, l2, l3, .val (.int v), l5, l6] st H Q = M21 43 [l0, l1, l2, l3, .val (.int v), l5, l6] (.int v :: st) H Q := w_x (show decode kb21 41 = .ok (.iload 4, 2) from by decide +kernel) rfl
theorem m21_43 : M21 43 ls st H Q = M21 45 ls (.int 65 :: st) H Q := w_con (show decode kb21 43 = .ok (.bipush 65, 2) from by decide +kernel) rfl (by decide)
theorem m21_45 : M21 45 ls (.int y :: .int x :: st) H Q = if x < y then M21 51 ls st H Q else M21 48 ls st H Q := w_icmp (show decode kb21 45 = .ok (.if_icmp .lt 6, 3) from by decide +kernel) (i_lt x y) rfl
theorem m21_48 : M21 48 ls st H Q = M21 49 ls (.int 0 :: st) H Q := w_con (show decode kb21 48 = .ok (.iconst 0, 1) from by decide +kernel) rfl (by decide)
theorem m21_49i : M21 49 [l0, l1, l2, l3, .val (.int z), l5, l6] ((.int v) :: st) H Q = M21 51 [l0, l1, l2, l3, .val (.int v), l5, l6] st H Q := w_st (i := 4) (p := isI) (show decode kb21 49 = .ok (.istore 4, 2) from by decide +kernel) rfl rfl rfl rfl rfl rfl
theorem m21_51 : M21 51 [.val (.ref r), l1, l2, l3, l4, l5, l6] st H Q = M21 52 [.val (.ref r), l1, l2, l3, l4, l5, l6] (.ref r :: st) H Q := w_x (show decode kb21 51 = .ok (.aload_n 0, 1) from by decide +kernel) rfl
theorem m21_52 : M21 52 [l0, l1, l2, l3, .val (.int v), l5, l6] st H Q = M21 54 [l0, l1, l2, l3, .val (.int v), l5, l6] (.int v :: st) H Q := w_x (show decode kb21 52 = .ok (.iload 4, 2) from by decide +kernel) rfl
theorem m21_54 : M21 54 ls (.int v :: .ref (b + 1) :: st) (put (b + 1) pre s A post) Q = M21 57 ls st (put (b + 1) pre (ou s 6 v) A post) Q := w_put (show decode kb21 54 = .ok (.putfield 67, 3) from by decide +kernel) pf21_67 put_o (Nat.succ_le_succ (Nat.zero_le _)) (by show 18 < 29; omega) rfl put_s6
theorem m21_57 : M21 57 [.val (.ref r), l1, l2, l3, l4, l5, l6] st H Q = M21 58 [.val (.ref r), l1, l2, l3, l4, l5, l6] (.ref r :: st) H Q := w_x (show decode kb21 57 = .ok (.aload_n 0, 1) from by decide +kernel) rfl
theorem m21_58 : M21 58 ls (.ref (b + 1) :: st) (put (b + 1) pre s A post) Q = M21 61 ls (.ref ((b + 1) + 6) :: st) (put (b + 1) pre s A post) Q := w_get (show decode kb21 58 = .ok (.getfield 25, 3) from by decide +kernel) gf_25 put_o rfl
theorem m21_61 : M21 61 [l0, l1, l2, l3, .val (.int v), l5, l6] st H Q = M21 63 [l0, l1, l2, l3, .val (.int v), l5, l6] (.int v :: st) H Q := w_x (show decode kb21 61 = .ok (.iload 4, 2) from by decide +kernel) rfl
theorem m21_63  : M21 63 ls (.int j :: .ref ((b + 1) + 6) :: st) (put (b + 1) pre s A post) Q = (inB j (A 5) ∧ M21 64 ls (.int (getA (A 5) j) :: st) (put (b + 1) pre s A post) Q) := w_ild (show decode kb21 63 = .ok (.iaload, 1) from by decide +kernel) rfl put_a5
theorem m21_64u : M21 64 [l0, l1, l2, l3, l4, .unset, l6] ((.int v) :: st) H Q = M21 66 [l0, l1, l2, l3, l4, .val (.int v), l6] st H Q := w_st (i := 5) (p := isI) (show decode kb21 64 = .ok (.istore 5, 2) from by decide +kernel) rfl rfl rfl rfl rfl rfl
theorem m21_66 : M21 66 [l0, l1, l2, l3, l4, .val (.int v), l6] st H Q = M21 68 [l0, l1, l2, l3, l4, .val (.int v), l6] (.int v :: st) H Q := w_x (show decode kb21 66 = .ok (.iload 5, 2) from by decide +kernel) rfl
theorem m21_68 : M21 68 ls (.int x :: st) H Q = if x = 0 then M21 71 ls st H Q else M21 72 ls st H Q := w_ifN (show decode kb21 68 = .ok (.ifCond .ne 4, 3) from by decide +kernel) (z_ne x) rfl
theorem m21_71 : M21 71 ls [] H Q = Q none H := w_vret (show decode kb21 71 = .ok (.return_, 1) from by decide +kernel) rfl
theorem m21_72 : M21 72 ls st H Q = M21 73 ls (.int 0 :: st) H Q := w_con (show decode kb21 72 = .ok (.iconst 0, 1) from by decide +kernel) rfl (by decide)
theorem m21_73u : M21 73 [l0, l1, l2, l3, l4, l5, .unset] ((.int v) :: st) H Q = M21 75 [l0, l1, l2, l3, l4, l5, .val (.int v)] st H Q := w_st (i := 6) (p := isI) (show decode kb21 73 = .ok (.istore 6, 2) from by decide +kernel) rfl rfl rfl rfl rfl rfl
theorem m21_75 : M21 75 [l0, l1, l2, l3, l4, l5, .val (.int v)] st H Q = M21 77 [l0, l1, l2, l3, l4, l5, .val (.int v)] (.int v :: st) H Q := w_x (show decode kb21 75 = .ok (.iload 6, 2) from by decide +kernel) rfl
theorem m21_77 : M21 77 [.val (.ref r), l1, l2, l3, l4, l5, l6] st H Q = M21 78 [.val (.ref r), l1, l2, l3, l4, l5, l6] (.ref r :: st) H Q := w_x (show decode kb21 77 = .ok (.aload_n 0, 1) from by decide +kernel) rfl
theorem m21_78 : M21 78 ls (.ref (b + 1) :: st) (put (b + 1) pre s A post) Q = M21 81 ls (.int (s 2) :: st) (put (b + 1) pre s A post) Q := w_get (show decode kb21 78 = .ok (.getfield 55, 3) from by decide +kernel) gf_55 put_o rfl
theorem m21_81 : M21 81 ls (.int y :: .int x :: st) H Q = if x < y then M21 84 ls st H Q else M21 114 ls st H Q := w_icmpN (show decode kb21 81 = .ok (.if_icmp .ge 33, 3) from by decide +kernel) (i_ge x y) rfl
theorem m21_84 : M21 84 [l0, l1, l2, l3, l4, l5, .val (.int v)] st H Q = M21 86 [l0, l1, l2, l3, l4, l5, .val (.int v)] (.int v :: st) H Q := w_x (show decode kb21 84 = .ok (.iload 6, 2) from by decide +kernel) rfl
theorem m21_86 : M21 86 ls st H Q = M21 88 ls (.int 16 :: st) H Q := w_con (show decode kb21 86 = .ok (.bipush 16, 2) from by decide +kernel) rfl (by decide)
theorem m21_88 : M21 88 ls (.int y :: .int x :: st) H Q = if x < y then M21 91 ls st H Q else M21 114 ls st H Q := w_icmpN (show decode kb21 88 = .ok (.if_icmp .ge 26, 3) from by decide +kernel) (i_ge x y) rfl
theorem m21_91 : M21 91 [l0, l1, l2, l3, l4, .val (.int v), l6] st H Q = M21 93 [l0, l1, l2, l3, l4, .val (.int v), l6] (.int v :: st) H Q := w_x (show decode kb21 91 = .ok (.iload 5, 2) from by decide +kernel) rfl
theorem m21_93 : M21 93 [l0, l1, l2, l3, l4, l5, .val (.int v)] st H Q = M21 95 [l0, l1, l2, l3, l4, l5, .val (.int v)] (.int v :: st) H Q := w_x (show decode kb21 93 = .ok (.iload 6, 2) from by decide +kernel) rfl
theorem m21_95 : M21 95 ls (.int y :: .int x :: st) H Q = M21 96 ls (.int (x >>> (y &&& 31)) :: st) H Q := w_x (show decode kb21 95 = .ok (.ishr, 1) from by decide +kernel) rfl
theorem m21_96 : M21 96 ls st H Q = M21 97 ls (.int 1 :: st) H Q := w_con (show decode kb21 96 = .ok (.iconst 1, 1) from by decide +kernel) rfl (by decide)
theorem m21_97 : M21 97 ls (.int y :: .int x :: st) H Q = M21 98 ls (.int (x &&& y) :: st) H Q := w_x (show decode kb21 97 = .ok (.iand, 1) from by decide +kernel) rfl
theorem m21_98 : M21 98 ls (.int x :: st) H Q = if x = 0 then M21 108 ls st H Q else M21 101 ls st H Q := w_if (show decode kb21 98 = .ok (.ifCond .eq 10, 3) from by decide +kernel) (z_eq x) rfl
theorem m21_101 : M21 101 [.val (.ref r), l1, l2, l3, l4, l5, l6] st H Q = M21 102 [.val (.ref r), l1, l2, l3, l4, l5, l6] (.ref r :: st) H Q := w_x (show decode kb21 101 = .ok (.aload_n 0, 1) from by decide +kernel) rfl
theorem m21_102 : M21 102 [l0, l1, l2, l3, l4, l5, .val (.int v)] st H Q = M21 104 [l0, l1, l2, l3, l4, l5, .val (.int v)] (.int v :: st) H Q := w_x (show decode kb21 102 = .ok (.iload 6, 2) from by decide +kernel) rfl
theorem m21_104 : M21 104 [l0, .val (.int v), l2, l3, l4, l5, l6] st H Q = M21 105 [l0, .val (.int v), l2, l3, l4, l5, l6] (.int v :: st) H Q := w_x (show decode kb21 104 = .ok (.iload_n 1, 1) from by decide +kernel) rfl
theorem cr21_131 : vR tables_1 dn y21 131 = some (true, y22, prog_1_method_15_code, 3, none, 2, 0) := pR_of (cR_of (by decide +kernel) rc_22 dn_22 dn_21 (sig := ⟨[.int, .int], none⟩) (by decide +kernel) (by decide +kernel) rfl rfl) (by decide +kernel) (by decide +kernel)
theorem m21_105 (a0 : Int32) (a1 : Int32) : M21 105 ls [.int a1, .int a0, .ref (b + 1)] (put (b + 1) pre s A post) Q = M22 0 [.val (.ref (b + 1)), .val (.int a0), .val (.int a1)] [] (put (b + 1) pre s A post) (fun v H1 => M21 108 ls (v.toList ++ []) H1 Q) := w_virt (as := [.int a1, .int a0]) (rest := []) (a := (b + 1)) (show decode kb21 105 = .ok (.invokevirtual 131, 3) from by decide +kernel) cr21_131 put_o rfl rfl (Nat.le_of_ble_eq_true rfl) (by show 3 ≤ 3; omega) rfl
theorem m21_108 : M21 108 [l0, l1, l2, l3, l4, l5, .val (.int v)] st H Q = M21 111 [l0, l1, l2, l3, l4, l5, .val (.int (v + 1))] st H Q := w_iinc (show decode kb21 108 = .ok (.iinc 6 1, 3) from by decide +kernel) rfl (by decide) rfl
theorem m21_111 : M21 111 ls st H Q = M21 75 ls st H Q := w_x (show decode kb21 111 = .ok (.goto (-36), 3) from by decide +kernel) rfl
theorem m21_114 : M21 114 ls [] H Q = Q none H := w_vret (show decode kb21 114 = .ok (.return_, 1) from by decide +kernel) rfl
theorem m22_0 : M22 0 [.val (.ref r), l1, l2] st H Q = M22 1 [.val (.ref r), l1, l2] (.ref r :: st) H Q := w_x (show decode kb22 0 = .ok (.aload_n 0, 1) from by decide +kernel) rfl
theorem m22_1 : M22 1 ls (.ref (b + 1) :: st) (put (b + 1) pre s A post) Q = M22 4 ls (.int (s 16) :: st) (put (b + 1) pre s A post) Q := w_get (show decode kb22 1 = .ok (.getfield 97, 3) from by decide +kernel) gf_97 put_o rfl
theorem m22_4 : M22 4 ls (.int x :: st) H Q = if x < 0 then M22 36 ls st H Q else M22 7 ls st H Q := w_if (show decode kb22 4 = .ok (.ifCond .lt 32, 3) from by decide +kernel) (z_lt x) rfl
theorem m22_7 : M22 7 [.val (.ref r), l1, l2] st H Q = M22 8 [.val (.ref r), l1, l2] (.ref r :: st) H Q := w_x (show decode kb22 7 = .ok (.aload_n 0, 1) from by decide +kernel) rfl
theorem m22_8 : M22 8 ls (.ref (b + 1) :: st) (put (b + 1) pre s A post) Q = M22 11 ls (.int (s 16) :: st) (put (b + 1) pre s A post) Q := w_get (show decode kb22 8 = .ok (.getfield 97, 3) from by decide +kernel) gf_97 put_o rfl
theorem m22_11 : M22 11 ls st H Q = M22 13 ls (.int 64 :: st) H Q := w_con (show decode kb22 11 = .ok (.bipush 64, 2) from by decide +kernel) rfl (by decide)
theorem m22_13 : M22 13 ls (.int y :: .int x :: st) H Q = if x < y then M22 16 ls st H Q else M22 36 ls st H Q := w_icmpN (show decode kb22 13 = .ok (.if_icmp .ge 23, 3) from by decide +kernel) (i_ge x y) rfl
theorem m22_16 : M22 16 [.val (.ref r), l1, l2] st H Q = M22 17 [.val (.ref r), l1, l2] (.ref r :: st) H Q := w_x (show decode kb22 16 = .ok (.aload_n 0, 1) from by decide +kernel) rfl
theorem m22_17 : M22 17 ls (.ref (b + 1) :: st) (put (b + 1) pre s A post) Q = M22 20 ls (.ref ((b + 1) + 11) :: st) (put (b + 1) pre s A post) Q := w_get (show decode kb22 17 = .ok (.getfield 41, 3) from by decide +kernel) gf_41 put_o rfl
theorem m22_20 : M22 20 [.val (.ref r), l1, l2] st H Q = M22 21 [.val (.ref r), l1, l2] (.ref r :: st) H Q := w_x (show decode kb22 20 = .ok (.aload_n 0, 1) from by decide +kernel) rfl
theorem m22_21 : M22 21 ls (.ref (b + 1) :: st) (put (b + 1) pre s A post) Q = M22 24 ls (.int (s 16) :: st) (put (b + 1) pre s A post) Q := w_get (show decode kb22 21 = .ok (.getfield 97, 3) from by decide +kernel) gf_97 put_o rfl
theorem m22_24 : M22 24 [l0, .val (.int v), l2] st H Q = M22 25 [l0, .val (.int v), l2] (.int v :: st) H Q := w_x (show decode kb22 24 = .ok (.iload_n 1, 1) from by decide +kernel) rfl
theorem m22_25  : M22 25 ls (.int v :: .int j :: .ref ((b + 1) + 11) :: st) (put (b + 1) pre s A post) Q = (inB j (A 10) ∧ M22 26 ls st (put (b + 1) pre s (ou A 10 (setA (A 10) j v)) post) Q) := w_ist (show decode kb22 25 = .ok (.iastore, 1) from by decide +kernel) rfl put_a10 (by omega) rfl put_w10
theorem m22_26 : M22 26 [.val (.ref r), l1, l2] st H Q = M22 27 [.val (.ref r), l1, l2] (.ref r :: st) H Q := w_x (show decode kb22 26 = .ok (.aload_n 0, 1) from by decide +kernel) rfl
theorem m22_27 : M22 27 ls (.ref (b + 1) :: st) (put (b + 1) pre s A post) Q = M22 30 ls (.ref ((b + 1) + 12) :: st) (put (b + 1) pre s A post) Q := w_get (show decode kb22 27 = .ok (.getfield 44, 3) from by decide +kernel) gf_44 put_o rfl
theorem m22_30 : M22 30 [.val (.ref r), l1, l2] st H Q = M22 31 [.val (.ref r), l1, l2] (.ref r :: st) H Q := w_x (show decode kb22 30 = .ok (.aload_n 0, 1) from by decide +kernel) rfl
theorem m22_31 : M22 31 ls (.ref (b + 1) :: st) (put (b + 1) pre s A post) Q = M22 34 ls (.int (s 16) :: st) (put (b + 1) pre s A post) Q := w_get (show decode kb22 31 = .ok (.getfield 97, 3) from by decide +kernel) gf_97 put_o rfl
theorem m22_34 : M22 34 [l0, l1, .val (.int v)] st H Q = M22 35 [l0, l1, .val (.int v)] (.int v :: st) H Q := w_x (show decode kb22 34 = .ok (.iload_n 2, 1) from by decide +kernel) rfl
theorem m22_35  : M22 35 ls (.int v :: .int j :: .ref ((b + 1) + 12) :: st) (put (b + 1) pre s A post) Q = (inB j (A 11) ∧ M22 36 ls st (put (b + 1) pre s (ou A 11 (setA (A 11) j v)) post) Q) := w_ist (show decode kb22 35 = .ok (.iastore, 1) from by decide +kernel) rfl put_a11 (by omega) rfl put_w11
theorem m22_36 : M22 36 [.val (.ref r), l1, l2] st H Q = M22 37 [.val (.ref r), l1, l2] (.ref r :: st) H Q := w_x (show decode kb22 36 = .ok (.aload_n 0, 1) from by decide +kernel) rfl
theorem m22_37 : M22 37 ls ((.ref r) :: st) H Q = M22 38 ls ((.ref r) :: (.ref r) :: st) H Q := w_x (show decode kb22 37 = .ok (.dup, 1) from by decide +kernel) rfl
theorem m22_38 : M22 38 ls (.ref (b + 1) :: st) (put (b + 1) pre s A post) Q = M22 41 ls (.int (s 16) :: st) (put (b + 1) pre s A post) Q := w_get (show decode kb22 38 = .ok (.getfield 97, 3) from by decide +kernel) gf_97 put_o rfl
theorem m22_41 : M22 41 ls st H Q = M22 42 ls (.int 1 :: st) H Q := w_con (show decode kb22 41 = .ok (.iconst 1, 1) from by decide +kernel) rfl (by decide)
theorem m22_42 : M22 42 ls (.int y :: .int x :: st) H Q = M22 43 ls (.int (x + y) :: st) H Q := w_x (show decode kb22 42 = .ok (.iadd, 1) from by decide +kernel) rfl
theorem pf22_97 : pfR tables_1 y22.cls y22.name 97 = some ("StreamSigScanner", 28, .int) := by decide +kernel
theorem m22_43 : M22 43 ls (.int v :: .ref (b + 1) :: st) (put (b + 1) pre s A post) Q = M22 46 ls st (put (b + 1) pre (ou s 16 v) A post) Q := w_put (show decode kb22 43 = .ok (.putfield 97, 3) from by decide +kernel) pf22_97 put_o (Nat.succ_le_succ (Nat.zero_le _)) (by show 28 < 29; omega) rfl put_s16
theorem m22_46 : M22 46 ls [] H Q = Q none H := w_vret (show decode kb22 46 = .ok (.return_, 1) from by decide +kernel) rfl
theorem m23_0 : M23 0 ls st H Q = M23 1 ls (.int 0 :: st) H Q := w_con (show decode kb23 0 = .ok (.iconst 0, 1) from by decide +kernel) rfl (by decide)
theorem m23_1u : M23 1 [l0, l1, .unset] ((.int v) :: st) H Q = M23 2 [l0, l1, .val (.int v)] st H Q := w_st (i := 2) (p := isI) (show decode kb23 1 = .ok (.istore_n 2, 1) from by decide +kernel) rfl rfl rfl rfl rfl rfl
theorem m23_2 : M23 2 [l0, l1, .val (.int v)] st H Q = M23 3 [l0, l1, .val (.int v)] (.int v :: st) H Q := w_x (show decode kb23 2 = .ok (.iload_n 2, 1) from by decide +kernel) rfl
theorem m23_3 : M23 3 ls st H Q = M23 5 ls (.int 15 :: st) H Q := w_con (show decode kb23 3 = .ok (.bipush 15, 2) from by decide +kernel) rfl (by decide)
theorem m23_5 : M23 5 ls (.int y :: .int x :: st) H Q = if y < x then M23 29 ls st H Q else M23 8 ls st H Q := w_icmp (show decode kb23 5 = .ok (.if_icmp .gt 24, 3) from by decide +kernel) (i_gt x y) rfl
theorem m23_8 : M23 8 [.val (.ref r), l1, l2] st H Q = M23 9 [.val (.ref r), l1, l2] (.ref r :: st) H Q := w_x (show decode kb23 8 = .ok (.aload_n 0, 1) from by decide +kernel) rfl
theorem m23_9 : M23 9 [l0, l1, .val (.int v)] st H Q = M23 10 [l0, l1, .val (.int v)] (.int v :: st) H Q := w_x (show decode kb23 9 = .ok (.iload_n 2, 1) from by decide +kernel) rfl
theorem cr23_7 : vR tables_1 dn y23 7 = some (false, y1, prog_1_method_16_code, 2, (some .int), 1, 2) := vR_of (cR_of (by decide +kernel) rc_1 dn_1 dn_23 (sig := ⟨[.int], some .int⟩) (by decide +kernel) (by decide +kernel) rfl rfl) (by decide +kernel) (by decide +kernel) (by decide +kernel)
theorem m23_10 (a0 : Int32) : M23 10 ls [.int a0, .ref (b + 1)] (put (b + 1) pre s A post) Q = M1 0 [.val (.ref (b + 1)), .val (.int a0)] [] (put (b + 1) pre s A post) (fun v H1 => M23 13 ls (v.toList ++ []) H1 Q) := w_virt (as := [.int a0]) (rest := []) (a := (b + 1)) (show decode kb23 10 = .ok (.invokevirtual 7, 3) from by decide +kernel) cr23_7 put_o rfl rfl (Nat.le_of_ble_eq_true rfl) (by show 2 ≤ 2; omega) rfl
theorem m23_13 : M23 13 [l0, .val (.ref r), l2] st H Q = M23 14 [l0, .val (.ref r), l2] (.ref r :: st) H Q := w_x (show decode kb23 13 = .ok (.aload_n 1, 1) from by decide +kernel) rfl
theorem m23_14 : M23 14 [l0, l1, .val (.int v)] st H Q = M23 15 [l0, l1, .val (.int v)] (.int v :: st) H Q := w_x (show decode kb23 14 = .ok (.iload_n 2, 1) from by decide +kernel) rfl
theorem m23_15 (a0 : Int32) (u0 : Int32) : M23 15 ls [.int a0, .ref (b + 1), .int u0] (put (b + 1) pre s A post) Q = M1 0 [.val (.ref (b + 1)), .val (.int a0)] [] (put (b + 1) pre s A post) (fun v H1 => M23 18 ls (v.toList ++ [.int u0]) H1 Q) := w_virt (as := [.int a0]) (rest := [.int u0]) (a := (b + 1)) (show decode kb23 15 = .ok (.invokevirtual 7, 3) from by decide +kernel) cr23_7 put_o rfl rfl (Nat.le_of_ble_eq_true rfl) (by show 2 ≤ 2; omega) rfl
theorem m23_18 : M23 18 ls (.int y :: .int x :: st) H Q = if x = y then M23 23 ls st H Q else M23 21 ls st H Q := w_icmp (show decode kb23 18 = .ok (.if_icmp .eq 5, 3) from by decide +kernel) (i_eq x y) rfl
theorem m23_21 : M23 21 ls st H Q = M23 22 ls (.int 0 :: st) H Q := w_con (show decode kb23 21 = .ok (.iconst 0, 1) from by decide +kernel) rfl (by decide)
theorem m23_22 : M23 22 ls (.int z :: st) H Q = Q (some (.int (nar .boolean z))) H := w_iretN (show decode kb23 22 = .ok (.ireturn, 1) from by decide +kernel) rfl (by simp)
theorem m23_23 : M23 23 [l0, l1, .val (.int v)] st H Q = M23 26 [l0, l1, .val (.int (v + 1))] st H Q := w_iinc (show decode kb23 23 = .ok (.iinc 2 1, 3) from by decide +kernel) rfl (by decide) rfl
theorem m23_26 : M23 26 ls st H Q = M23 2 ls st H Q := w_x (show decode kb23 26 = .ok (.goto (-24), 3) from by decide +kernel) rfl
theorem m23_29 : M23 29 ls st H Q = M23 30 ls (.int 0 :: st) H Q := w_con (show decode kb23 29 = .ok (.iconst 0, 1) from by decide +kernel) rfl (by decide)
theorem m23_30i : M23 30 [l0, l1, .val (.int z)] ((.int v) :: st) H Q = M23 31 [l0, l1, .val (.int v)] st H Q := w_st (i := 2) (p := isI) (show decode kb23 30 = .ok (.istore_n 2, 1) from by decide +kernel) rfl rfl rfl rfl rfl rfl
theorem m23_31 : M23 31 [l0, l1, .val (.int v)] st H Q = M23 32 [l0, l1, .val (.int v)] (.int v :: st) H Q := w_x (show decode kb23 31 = .ok (.iload_n 2, 1) from by decide +kernel) rfl
theorem m23_32 : M23 32 ls st H Q = M23 35 ls (.int 256 :: st) H Q := w_con (show decode kb23 32 = .ok (.sipush 256, 3) from by decide +kernel) rfl (by decide)
theorem m23_35 : M23 35 ls (.int y :: .int x :: st) H Q = if x < y then M23 38 ls st H Q else M23 59 ls st H Q := w_icmpN (show decode kb23 35 = .ok (.if_icmp .ge 24, 3) from by decide +kernel) (i_ge x y) rfl
theorem m23_38 : M23 38 [.val (.ref r), l1, l2] st H Q = M23 39 [.val (.ref r), l1, l2] (.ref r :: st) H Q := w_x (show decode kb23 38 = .ok (.aload_n 0, 1) from by decide +kernel) rfl
theorem m23_39 : M23 39 [l0, l1, .val (.int v)] st H Q = M23 40 [l0, l1, .val (.int v)] (.int v :: st) H Q := w_x (show decode kb23 39 = .ok (.iload_n 2, 1) from by decide +kernel) rfl
theorem cr23_13 : vR tables_1 dn y23 13 = some (false, y4, prog_1_method_17_code, 2, (some .int), 1, 2) := vR_of (cR_of (by decide +kernel) rc_4 dn_4 dn_23 (sig := ⟨[.int], some .int⟩) (by decide +kernel) (by decide +kernel) rfl rfl) (by decide +kernel) (by decide +kernel) (by decide +kernel)
theorem m23_40 (a0 : Int32) : M23 40 ls [.int a0, .ref (b + 1)] (put (b + 1) pre s A post) Q = M4 0 [.val (.ref (b + 1)), .val (.int a0)] [] (put (b + 1) pre s A post) (fun v H1 => M23 43 ls (v.toList ++ []) H1 Q) := w_virt (as := [.int a0]) (rest := []) (a := (b + 1)) (show decode kb23 40 = .ok (.invokevirtual 13, 3) from by decide +kernel) cr23_13 put_o rfl rfl (Nat.le_of_ble_eq_true rfl) (by show 2 ≤ 2; omega) rfl
theorem m23_43 : M23 43 [l0, .val (.ref r), l2] st H Q = M23 44 [l0, .val (.ref r), l2] (.ref r :: st) H Q := w_x (show decode kb23 43 = .ok (.aload_n 1, 1) from by decide +kernel) rfl
theorem m23_44 : M23 44 [l0, l1, .val (.int v)] st H Q = M23 45 [l0, l1, .val (.int v)] (.int v :: st) H Q := w_x (show decode kb23 44 = .ok (.iload_n 2, 1) from by decide +kernel) rfl
theorem m23_45 (a0 : Int32) (u0 : Int32) : M23 45 ls [.int a0, .ref (b + 1), .int u0] (put (b + 1) pre s A post) Q = M4 0 [.val (.ref (b + 1)), .val (.int a0)] [] (put (b + 1) pre s A post) (fun v H1 => M23 48 ls (v.toList ++ [.int u0]) H1 Q) := w_virt (as := [.int a0]) (rest := [.int u0]) (a := (b + 1)) (show decode kb23 45 = .ok (.invokevirtual 13, 3) from by decide +kernel) cr23_13 put_o rfl rfl (Nat.le_of_ble_eq_true rfl) (by show 2 ≤ 2; omega) rfl
theorem m23_48 : M23 48 ls (.int y :: .int x :: st) H Q = if x = y then M23 53 ls st H Q else M23 51 ls st H Q := w_icmp (show decode kb23 48 = .ok (.if_icmp .eq 5, 3) from by decide +kernel) (i_eq x y) rfl
theorem m23_51 : M23 51 ls st H Q = M23 52 ls (.int 0 :: st) H Q := w_con (show decode kb23 51 = .ok (.iconst 0, 1) from by decide +kernel) rfl (by decide)
theorem m23_52 : M23 52 ls (.int z :: st) H Q = Q (some (.int (nar .boolean z))) H := w_iretN (show decode kb23 52 = .ok (.ireturn, 1) from by decide +kernel) rfl (by simp)
theorem m23_53 : M23 53 [l0, l1, .val (.int v)] st H Q = M23 56 [l0, l1, .val (.int (v + 1))] st H Q := w_iinc (show decode kb23 53 = .ok (.iinc 2 1, 3) from by decide +kernel) rfl (by decide) rfl
theorem m23_56 : M23 56 ls st H Q = M23 31 ls st H Q := w_x (show decode kb23 56 = .ok (.goto (-25), 3) from by decide +kernel) rfl
theorem m23_59 : M23 59 ls st H Q = M23 60 ls (.int 0 :: st) H Q := w_con (show decode kb23 59 = .ok (.iconst 0, 1) from by decide +kernel) rfl (by decide)
theorem m23_60i : M23 60 [l0, l1, .val (.int z)] ((.int v) :: st) H Q = M23 61 [l0, l1, .val (.int v)] st H Q := w_st (i := 2) (p := isI) (show decode kb23 60 = .ok (.istore_n 2, 1) from by decide +kernel) rfl rfl rfl rfl rfl rfl
theorem m23_61 : M23 61 [l0, l1, .val (.int v)] st H Q = M23 62 [l0, l1, .val (.int v)] (.int v :: st) H Q := w_x (show decode kb23 61 = .ok (.iload_n 2, 1) from by decide +kernel) rfl
theorem m23_62 : M23 62 ls st H Q = M23 64 ls (.int 64 :: st) H Q := w_con (show decode kb23 62 = .ok (.bipush 64, 2) from by decide +kernel) rfl (by decide)
theorem m23_64 : M23 64 ls (.int y :: .int x :: st) H Q = if x < y then M23 67 ls st H Q else M23 101 ls st H Q := w_icmpN (show decode kb23 64 = .ok (.if_icmp .ge 37, 3) from by decide +kernel) (i_ge x y) rfl
theorem m23_67 : M23 67 [.val (.ref r), l1, l2] st H Q = M23 68 [.val (.ref r), l1, l2] (.ref r :: st) H Q := w_x (show decode kb23 67 = .ok (.aload_n 0, 1) from by decide +kernel) rfl
theorem m23_68 : M23 68 [l0, l1, .val (.int v)] st H Q = M23 69 [l0, l1, .val (.int v)] (.int v :: st) H Q := w_x (show decode kb23 68 = .ok (.iload_n 2, 1) from by decide +kernel) rfl
theorem cr23_16 : vR tables_1 dn y23 16 = some (false, y6, prog_1_method_20_code, 2, (some .int), 1, 1) := vR_of (cR_of (by decide +kernel) rc_6 dn_6 dn_23 (sig := ⟨[.int], some .int⟩) (by decide +kernel) (by decide +kernel) rfl rfl) (by decide +kernel) (by decide +kernel) (by decide +kernel)
theorem m23_69 (a0 : Int32) : M23 69 ls [.int a0, .ref (b + 1)] (put (b + 1) pre s A post) Q = M6 0 [.val (.ref (b + 1)), .val (.int a0)] [] (put (b + 1) pre s A post) (fun v H1 => M23 72 ls (v.toList ++ []) H1 Q) := w_virt (as := [.int a0]) (rest := []) (a := (b + 1)) (show decode kb23 69 = .ok (.invokevirtual 16, 3) from by decide +kernel) cr23_16 put_o rfl rfl (Nat.le_of_ble_eq_true rfl) (by show 2 ≤ 2; omega) rfl
theorem m23_72 : M23 72 [l0, .val (.ref r), l2] st H Q = M23 73 [l0, .val (.ref r), l2] (.ref r :: st) H Q := w_x (show decode kb23 72 = .ok (.aload_n 1, 1) from by decide +kernel) rfl
theorem m23_73 : M23 73 [l0, l1, .val (.int v)] st H Q = M23 74 [l0, l1, .val (.int v)] (.int v :: st) H Q := w_x (show decode kb23 73 = .ok (.iload_n 2, 1) from by decide +kernel) rfl
theorem m23_74 (a0 : Int32) (u0 : Int32) : M23 74 ls [.int a0, .ref (b + 1), .int u0] (put (b + 1) pre s A post) Q = M6 0 [.val (.ref (b + 1)), .val (.int a0)] [] (put (b + 1) pre s A post) (fun v H1 => M23 77 ls (v.toList ++ [.int u0]) H1 Q) := w_virt (as := [.int a0]) (rest := [.int u0]) (a := (b + 1)) (show decode kb23 74 = .ok (.invokevirtual 16, 3) from by decide +kernel) cr23_16 put_o rfl rfl (Nat.le_of_ble_eq_true rfl) (by show 2 ≤ 2; omega) rfl
theorem m23_77 : M23 77 ls (.int y :: .int x :: st) H Q = if x = y then M23 80 ls st H Q else M23 93 ls st H Q := w_icmpN (show decode kb23 77 = .ok (.if_icmp .ne 16, 3) from by decide +kernel) (i_ne x y) rfl
theorem m23_80 : M23 80 [.val (.ref r), l1, l2] st H Q = M23 81 [.val (.ref r), l1, l2] (.ref r :: st) H Q := w_x (show decode kb23 80 = .ok (.aload_n 0, 1) from by decide +kernel) rfl
theorem m23_81 : M23 81 [l0, l1, .val (.int v)] st H Q = M23 82 [l0, l1, .val (.int v)] (.int v :: st) H Q := w_x (show decode kb23 81 = .ok (.iload_n 2, 1) from by decide +kernel) rfl
theorem cr23_19 : vR tables_1 dn y23 19 = some (false, y8, prog_1_method_21_code, 2, (some .int), 1, 1) := vR_of (cR_of (by decide +kernel) rc_8 dn_8 dn_23 (sig := ⟨[.int], some .int⟩) (by decide +kernel) (by decide +kernel) rfl rfl) (by decide +kernel) (by decide +kernel) (by decide +kernel)
theorem m23_82 (a0 : Int32) : M23 82 ls [.int a0, .ref (b + 1)] (put (b + 1) pre s A post) Q = M8 0 [.val (.ref (b + 1)), .val (.int a0)] [] (put (b + 1) pre s A post) (fun v H1 => M23 85 ls (v.toList ++ []) H1 Q) := w_virt (as := [.int a0]) (rest := []) (a := (b + 1)) (show decode kb23 82 = .ok (.invokevirtual 19, 3) from by decide +kernel) cr23_19 put_o rfl rfl (Nat.le_of_ble_eq_true rfl) (by show 2 ≤ 2; omega) rfl
theorem m23_85 : M23 85 [l0, .val (.ref r), l2] st H Q = M23 86 [l0, .val (.ref r), l2] (.ref r :: st) H Q := w_x (show decode kb23 85 = .ok (.aload_n 1, 1) from by decide +kernel) rfl
theorem m23_86 : M23 86 [l0, l1, .val (.int v)] st H Q = M23 87 [l0, l1, .val (.int v)] (.int v :: st) H Q := w_x (show decode kb23 86 = .ok (.iload_n 2, 1) from by decide +kernel) rfl
theorem m23_87 (a0 : Int32) (u0 : Int32) : M23 87 ls [.int a0, .ref (b + 1), .int u0] (put (b + 1) pre s A post) Q = M8 0 [.val (.ref (b + 1)), .val (.int a0)] [] (put (b + 1) pre s A post) (fun v H1 => M23 90 ls (v.toList ++ [.int u0]) H1 Q) := w_virt (as := [.int a0]) (rest := [.int u0]) (a := (b + 1)) (show decode kb23 87 = .ok (.invokevirtual 19, 3) from by decide +kernel) cr23_19 put_o rfl rfl (Nat.le_of_ble_eq_true rfl) (by show 2 ≤ 2; omega) rfl
theorem m23_90 : M23 90 ls (.int y :: .int x :: st) H Q = if x = y then M23 95 ls st H Q else M23 93 ls st H Q := w_icmp (show decode kb23 90 = .ok (.if_icmp .eq 5, 3) from by decide +kernel) (i_eq x y) rfl
theorem m23_93 : M23 93 ls st H Q = M23 94 ls (.int 0 :: st) H Q := w_con (show decode kb23 93 = .ok (.iconst 0, 1) from by decide +kernel) rfl (by decide)
theorem m23_94 : M23 94 ls (.int z :: st) H Q = Q (some (.int (nar .boolean z))) H := w_iretN (show decode kb23 94 = .ok (.ireturn, 1) from by decide +kernel) rfl (by simp)
theorem m23_95 : M23 95 [l0, l1, .val (.int v)] st H Q = M23 98 [l0, l1, .val (.int (v + 1))] st H Q := w_iinc (show decode kb23 95 = .ok (.iinc 2 1, 3) from by decide +kernel) rfl (by decide) rfl
theorem m23_98 : M23 98 ls st H Q = M23 61 ls st H Q := w_x (show decode kb23 98 = .ok (.goto (-37), 3) from by decide +kernel) rfl
theorem m23_101 : M23 101 ls st H Q = M23 102 ls (.int 1 :: st) H Q := w_con (show decode kb23 101 = .ok (.iconst 1, 1) from by decide +kernel) rfl (by decide)
theorem m23_102 : M23 102 ls (.int z :: st) H Q = Q (some (.int (nar .boolean z))) H := w_iretN (show decode kb23 102 = .ok (.ireturn, 1) from by decide +kernel) rfl (by simp)
theorem m24_0 : M24 0 [l0, l1, .val (.int v), l3, l4, l5] st H Q = M24 1 [l0, l1, .val (.int v), l3, l4, l5] (.int v :: st) H Q := w_x (show decode kb24 0 = .ok (.iload_n 2, 1) from by decide +kernel) rfl
theorem m24_1u : M24 1 [l0, l1, l2, l3, .unset, l5] ((.int v) :: st) H Q = M24 3 [l0, l1, l2, l3, .val (.int v), l5] st H Q := w_st (i := 4) (p := isI) (show decode kb24 1 = .ok (.istore 4, 2) from by decide +kernel) rfl rfl rfl rfl rfl rfl
theorem m24_3 : M24 3 [l0, l1, l2, l3, .val (.int v), l5] st H Q = M24 5 [l0, l1, l2, l3, .val (.int v), l5] (.int v :: st) H Q := w_x (show decode kb24 3 = .ok (.iload 4, 2) from by decide +kernel) rfl
theorem m24_5 : M24 5 [l0, l1, l2, .val (.int v), l4, l5] st H Q = M24 6 [l0, l1, l2, .val (.int v), l4, l5] (.int v :: st) H Q := w_x (show decode kb24 5 = .ok (.iload_n 3, 1) from by decide +kernel) rfl
theorem m24_6 : M24 6 ls (.int y :: .int x :: st) H Q = if x < y then M24 9 ls st H Q else M24 36 ls st H Q := w_icmpN (show decode kb24 6 = .ok (.if_icmp .ge 30, 3) from by decide +kernel) (i_ge x y) rfl
theorem m24_9 : M24 9 [.val (.ref r), l1, l2, l3, l4, l5] st H Q = M24 10 [.val (.ref r), l1, l2, l3, l4, l5] (.ref r :: st) H Q := w_x (show decode kb24 9 = .ok (.aload_n 0, 1) from by decide +kernel) rfl
theorem m24_10 : M24 10 [l0, .val (.int v), l2, l3, l4, l5] st H Q = M24 11 [l0, .val (.int v), l2, l3, l4, l5] (.int v :: st) H Q := w_x (show decode kb24 10 = .ok (.iload_n 1, 1) from by decide +kernel) rfl
theorem m24_11 : M24 11 ls st H Q = M24 12 ls (.int 2 :: st) H Q := w_con (show decode kb24 11 = .ok (.iconst 2, 1) from by decide +kernel) rfl (by decide)
theorem m24_12 : M24 12 [l0, l1, l2, l3, .val (.int v), l5] st H Q = M24 14 [l0, l1, l2, l3, .val (.int v), l5] (.int v :: st) H Q := w_x (show decode kb24 12 = .ok (.iload 4, 2) from by decide +kernel) rfl
theorem m24_14 : M24 14 ls (.int y :: .int x :: st) H Q = M24 15 ls (.int (x * y) :: st) H Q := w_x (show decode kb24 14 = .ok (.imul, 1) from by decide +kernel) rfl
theorem m24_15 : M24 15 ls (.int y :: .int x :: st) H Q = M24 16 ls (.int (x >>> (y &&& 31)) :: st) H Q := w_x (show decode kb24 15 = .ok (.ishr, 1) from by decide +kernel) rfl
theorem m24_16 : M24 16 ls st H Q = M24 17 ls (.int 3 :: st) H Q := w_con (show decode kb24 16 = .ok (.iconst 3, 1) from by decide +kernel) rfl (by decide)
theorem m24_17 : M24 17 ls (.int y :: .int x :: st) H Q = M24 18 ls (.int (x &&& y) :: st) H Q := w_x (show decode kb24 17 = .ok (.iand, 1) from by decide +kernel) rfl
theorem cr24_22 : vR tables_1 dn y24 22 = some (false, y17, prog_1_method_10_code, 2, (some .int), 1, 0) := vR_of (cR_of (by decide +kernel) rc_17 dn_17 dn_24 (sig := ⟨[.int], some .int⟩) (by decide +kernel) (by decide +kernel) rfl rfl) (by decide +kernel) (by decide +kernel) (by decide +kernel)
theorem m24_18 (a0 : Int32) : M24 18 ls [.int a0, .ref (b + 1)] (put (b + 1) pre s A post) Q = M17 0 [.val (.ref (b + 1)), .val (.int a0)] [] (put (b + 1) pre s A post) (fun v H1 => M24 21 ls (v.toList ++ []) H1 Q) := w_virt (as := [.int a0]) (rest := []) (a := (b + 1)) (show decode kb24 18 = .ok (.invokevirtual 22, 3) from by decide +kernel) cr24_22 put_o rfl rfl (Nat.le_of_ble_eq_true rfl) (by show 2 ≤ 2; omega) rfl
theorem m24_21u : M24 21 [l0, l1, l2, l3, l4, .unset] ((.int v) :: st) H Q = M24 23 [l0, l1, l2, l3, l4, .val (.int v)] st H Q := w_st (i := 5) (p := isI) (show decode kb24 21 = .ok (.istore 5, 2) from by decide +kernel) rfl rfl rfl rfl rfl rfl
theorem m24_21i : M24 21 [l0, l1, l2, l3, l4, .val (.int z)] ((.int v) :: st) H Q = M24 23 [l0, l1, l2, l3, l4, .val (.int v)] st H Q := w_st (i := 5) (p := isI) (show decode kb24 21 = .ok (.istore 5, 2) from by decide +kernel) rfl rfl rfl rfl rfl rfl
theorem m24_21r : M24 21 [l0, l1, l2, l3, l4, .val (.ref q)] ((.int v) :: st) H Q = M24 23 [l0, l1, l2, l3, l4, .val (.int v)] st H Q := w_st (i := 5) (p := isI) (show decode kb24 21 = .ok (.istore 5, 2) from by decide +kernel) rfl rfl rfl rfl rfl rfl
theorem m24_21g (h : okS l5) : M24 21 [l0, l1, l2, l3, l4, l5] ((.int v) :: st) H Q = M24 23 [l0, l1, l2, l3, l4, .val (.int v)] st H Q := by rcases h with rfl | ⟨z, rfl⟩ <;> first | exact m24_21u | exact m24_21i
theorem m24_23 : M24 23 [l0, l1, l2, l3, l4, .val (.int v)] st H Q = M24 25 [l0, l1, l2, l3, l4, .val (.int v)] (.int v :: st) H Q := w_x (show decode kb24 23 = .ok (.iload 5, 2) from by decide +kernel) rfl
theorem m24_25 : M24 25 ls (.int x :: st) H Q = if x = 0 then M24 30 ls st H Q else M24 28 ls st H Q := w_if (show decode kb24 25 = .ok (.ifCond .eq 5, 3) from by decide +kernel) (z_eq x) rfl
theorem m24_28 : M24 28 ls st H Q = M24 29 ls (.int 0 :: st) H Q := w_con (show decode kb24 28 = .ok (.iconst 0, 1) from by decide +kernel) rfl (by decide)
theorem m24_29 : M24 29 ls (.int z :: st) H Q = Q (some (.int (nar .boolean z))) H := w_iretN (show decode kb24 29 = .ok (.ireturn, 1) from by decide +kernel) rfl (by simp)
theorem m24_30 : M24 30 [l0, l1, l2, l3, .val (.int v), l5] st H Q = M24 33 [l0, l1, l2, l3, .val (.int (v + 1)), l5] st H Q := w_iinc (show decode kb24 30 = .ok (.iinc 4 1, 3) from by decide +kernel) rfl (by decide) rfl
theorem m24_33 : M24 33 ls st H Q = M24 3 ls st H Q := w_x (show decode kb24 33 = .ok (.goto (-30), 3) from by decide +kernel) rfl
theorem m24_36 : M24 36 ls st H Q = M24 37 ls (.int 1 :: st) H Q := w_con (show decode kb24 36 = .ok (.iconst 1, 1) from by decide +kernel) rfl (by decide)
theorem m24_37 : M24 37 ls (.int z :: st) H Q = Q (some (.int (nar .boolean z))) H := w_iretN (show decode kb24 37 = .ok (.ireturn, 1) from by decide +kernel) rfl (by simp)
theorem m25_0 : M25 0 ls st H Q = M25 3 ls (.ref H.length :: st) (H ++ [(.object "StreamSigScanner", D0)]) Q := (w_new (C := "StreamSigScanner") at_0 (by rw [hNew, show rCls tables_1 y25.cls 8 = some "StreamSigScanner" from by decide +kernel]; dsimp only; rw [if_pos (by decide +kernel)])).trans (by rw [lay0]; rfl)
theorem m25_3 : M25 3 ls ((.ref r) :: st) H Q = M25 4 ls ((.ref r) :: (.ref r) :: st) H Q := w_x at_3 rfl
theorem m25_4 : M25 4 ls st H Q = M25 6 ls (.int 16 :: st) H Q := w_con at_4 rfl (by decide)
theorem cr25_25 : nR tables_1 dn y25 25 = some (y0, prog_1_method_1_code, 3, none, 1, 35) := nR_of (cR_of (by decide +kernel) rc_0 dn_0 dn_25 (sig := ⟨[.int], none⟩) (by decide +kernel) (by decide +kernel) rfl rfl) rfl (by decide +kernel) rfl
theorem cr25_25_o : oR tables_1 dn y25 25 = none := by decide +kernel
theorem m25_6 (a0 : Int32) (u0 : Nat) : M25 6 ls [.int a0, .ref r, .ref u0] H Q = M0 0 [.val (.ref r), .val (.int a0), .unset] [] H (fun v H1 => M25 9 ls (v.toList ++ [.ref u0]) H1 Q) := w_spec (as := [.int a0]) (rest := [.ref u0]) (a := r) at_6 cr25_25_o cr25_25 rfl (Nat.le_of_ble_eq_true rfl) (by show 2 ≤ 3; omega) rfl
theorem m25_9u : M25 9 [l0, .unset, l2, l3, l4, l5, l6, l7, l8, l9, l10, l11, l12, l13, l14, l15, l16, l17] ((.ref r) :: st) H Q = M25 10 [l0, .val (.ref r), l2, l3, l4, l5, l6, l7, l8, l9, l10, l11, l12, l13, l14, l15, l16, l17] st H Q := w_st (i := 1) (p := Value.isRef) at_9 rfl rfl rfl rfl rfl rfl
theorem m25_10 : M25 10 ls st H Q = M25 13 ls (.ref H.length :: st) (H ++ [(.object "StreamSigScanner", D0)]) Q := (w_new (C := "StreamSigScanner") at_10 (by rw [hNew, show rCls tables_1 y25.cls 8 = some "StreamSigScanner" from by decide +kernel]; dsimp only; rw [if_pos (by decide +kernel)])).trans (by rw [lay0]; rfl)
theorem m25_13 : M25 13 ls ((.ref r) :: st) H Q = M25 14 ls ((.ref r) :: (.ref r) :: st) H Q := w_x at_13 rfl
theorem m25_14 : M25 14 ls st H Q = M25 16 ls (.int 16 :: st) H Q := w_con at_14 rfl (by decide)
theorem m25_16 (a0 : Int32) (u0 : Nat) : M25 16 ls [.int a0, .ref r, .ref u0] H Q = M0 0 [.val (.ref r), .val (.int a0), .unset] [] H (fun v H1 => M25 19 ls (v.toList ++ [.ref u0]) H1 Q) := w_spec (as := [.int a0]) (rest := [.ref u0]) (a := r) at_16 cr25_25_o cr25_25 rfl (Nat.le_of_ble_eq_true rfl) (by show 2 ≤ 3; omega) rfl
theorem m25_19u : M25 19 [l0, l1, .unset, l3, l4, l5, l6, l7, l8, l9, l10, l11, l12, l13, l14, l15, l16, l17] ((.ref r) :: st) H Q = M25 20 [l0, l1, .val (.ref r), l3, l4, l5, l6, l7, l8, l9, l10, l11, l12, l13, l14, l15, l16, l17] st H Q := w_st (i := 2) (p := Value.isRef) at_19 rfl rfl rfl rfl rfl rfl
theorem m25_20 : M25 20 ls st H Q = M25 21 ls (.int 0 :: st) H Q := w_con at_20 rfl (by decide)
theorem m25_21u : M25 21 [l0, l1, l2, .unset, l4, l5, l6, l7, l8, l9, l10, l11, l12, l13, l14, l15, l16, l17] ((.int v) :: st) H Q = M25 22 [l0, l1, l2, .val (.int v), l4, l5, l6, l7, l8, l9, l10, l11, l12, l13, l14, l15, l16, l17] st H Q := w_st (i := 3) (p := isI) at_21 rfl rfl rfl rfl rfl rfl
theorem m25_22 : M25 22 [l0, l1, l2, .val (.int v), l4, l5, l6, l7, l8, l9, l10, l11, l12, l13, l14, l15, l16, l17] st H Q = M25 23 [l0, l1, l2, .val (.int v), l4, l5, l6, l7, l8, l9, l10, l11, l12, l13, l14, l15, l16, l17] (.int v :: st) H Q := w_x at_22 rfl
theorem m25_23 : M25 23 ls st H Q = M25 24 ls (.int 3 :: st) H Q := w_con at_23 rfl (by decide)
theorem m25_24 : M25 24 ls (.int y :: .int x :: st) H Q = M25 25 ls (.int (x + y) :: st) H Q := w_x at_24 rfl
theorem m25_25 : M25 25 [.val (.ref r), l1, l2, l3, l4, l5, l6, l7, l8, l9, l10, l11, l12, l13, l14, l15, l16, l17] st H Q = M25 26 [.val (.ref r), l1, l2, l3, l4, l5, l6, l7, l8, l9, l10, l11, l12, l13, l14, l15, l16, l17] (.ref r :: st) H Q := w_x at_25 rfl
theorem m25_26 : M25 26 ls (.ref 0 :: st) ((.array .int, sc.map Value.int) :: R) Q = M25 27 ls (.int sc.length.toInt32 :: st) ((.array .int, sc.map Value.int) :: R) Q := by exact (w_len at_26 rfl).trans (by rw [List.length_map]; rfl)
theorem m25_26p : M25 26 ls (.ref 0 :: st) (put (b + 1) ((.array .int, sc.map Value.int) :: pre) s A post) Q = M25 27 ls (.int sc.length.toInt32 :: st) (put (b + 1) ((.array .int, sc.map Value.int) :: pre) s A post) Q := by exact (w_len at_26 rfl).trans (by rw [List.length_map]; rfl)
theorem m25_27 : M25 27 ls (.int y :: .int x :: st) H Q = if x < y then M25 30 ls st H Q else M25 399 ls st H Q := w_icmpN at_27 (i_ge x y) rfl
theorem m25_30 : M25 30 [.val (.ref r), l1, l2, l3, l4, l5, l6, l7, l8, l9, l10, l11, l12, l13, l14, l15, l16, l17] st H Q = M25 31 [.val (.ref r), l1, l2, l3, l4, l5, l6, l7, l8, l9, l10, l11, l12, l13, l14, l15, l16, l17] (.ref r :: st) H Q := w_x at_30 rfl
theorem m25_31 : M25 31 [l0, l1, l2, .val (.int v), l4, l5, l6, l7, l8, l9, l10, l11, l12, l13, l14, l15, l16, l17] st H Q = M25 32 [l0, l1, l2, .val (.int v), l4, l5, l6, l7, l8, l9, l10, l11, l12, l13, l14, l15, l16, l17] (.int v :: st) H Q := w_x at_31 rfl
theorem m25_32 : M25 32 ls (.int j :: .ref 0 :: st) ((.array .int, sc.map Value.int) :: R) Q = (inB j sc ∧ M25 33 ls (.int (getA sc j) :: st) ((.array .int, sc.map Value.int) :: R) Q) := w_ild at_32 rfl rfl
theorem m25_32p : M25 32 ls (.int j :: .ref 0 :: st) (put (b + 1) ((.array .int, sc.map Value.int) :: pre) s A post) Q = (inB j sc ∧ M25 33 ls (.int (getA sc j) :: st) (put (b + 1) ((.array .int, sc.map Value.int) :: pre) s A post) Q) := w_ild at_32 rfl rfl
theorem m25_33 : M25 33 ls st H Q = M25 34 ls (.int 3 :: st) H Q := w_con at_33 rfl (by decide)
theorem m25_34 : M25 34 ls (.int y :: .int x :: st) H Q = M25 35 ls (.int (x &&& y) :: st) H Q := w_x at_34 rfl
theorem m25_35u : M25 35 [l0, l1, l2, l3, .unset, l5, l6, l7, l8, l9, l10, l11, l12, l13, l14, l15, l16, l17] ((.int v) :: st) H Q = M25 37 [l0, l1, l2, l3, .val (.int v), l5, l6, l7, l8, l9, l10, l11, l12, l13, l14, l15, l16, l17] st H Q := w_st (i := 4) (p := isI) at_35 rfl rfl rfl rfl rfl rfl
theorem m25_35i : M25 35 [l0, l1, l2, l3, .val (.int z), l5, l6, l7, l8, l9, l10, l11, l12, l13, l14, l15, l16, l17] ((.int v) :: st) H Q = M25 37 [l0, l1, l2, l3, .val (.int v), l5, l6, l7, l8, l9, l10, l11, l12, l13, l14, l15, l16, l17] st H Q := w_st (i := 4) (p := isI) at_35 rfl rfl rfl rfl rfl rfl
theorem m25_35r : M25 35 [l0, l1, l2, l3, .val (.ref q), l5, l6, l7, l8, l9, l10, l11, l12, l13, l14, l15, l16, l17] ((.int v) :: st) H Q = M25 37 [l0, l1, l2, l3, .val (.int v), l5, l6, l7, l8, l9, l10, l11, l12, l13, l14, l15, l16, l17] st H Q := w_st (i := 4) (p := isI) at_35 rfl rfl rfl rfl rfl rfl
theorem m25_35g (h : okS l4) : M25 35 [l0, l1, l2, l3, l4, l5, l6, l7, l8, l9, l10, l11, l12, l13, l14, l15, l16, l17] ((.int v) :: st) H Q = M25 37 [l0, l1, l2, l3, .val (.int v), l5, l6, l7, l8, l9, l10, l11, l12, l13, l14, l15, l16, l17] st H Q := by rcases h with rfl | ⟨z, rfl⟩ <;> first | exact m25_35u | exact m25_35i
theorem m25_37 : M25 37 [.val (.ref r), l1, l2, l3, l4, l5, l6, l7, l8, l9, l10, l11, l12, l13, l14, l15, l16, l17] st H Q = M25 38 [.val (.ref r), l1, l2, l3, l4, l5, l6, l7, l8, l9, l10, l11, l12, l13, l14, l15, l16, l17] (.ref r :: st) H Q := w_x at_37 rfl
theorem m25_38 : M25 38 [l0, l1, l2, .val (.int v), l4, l5, l6, l7, l8, l9, l10, l11, l12, l13, l14, l15, l16, l17] st H Q = M25 39 [l0, l1, l2, .val (.int v), l4, l5, l6, l7, l8, l9, l10, l11, l12, l13, l14, l15, l16, l17] (.int v :: st) H Q := w_x at_38 rfl
theorem m25_39 : M25 39 ls st H Q = M25 40 ls (.int 1 :: st) H Q := w_con at_39 rfl (by decide)
theorem m25_40 : M25 40 ls (.int y :: .int x :: st) H Q = M25 41 ls (.int (x + y) :: st) H Q := w_x at_40 rfl
theorem m25_41 : M25 41 ls (.int j :: .ref 0 :: st) ((.array .int, sc.map Value.int) :: R) Q = (inB j sc ∧ M25 42 ls (.int (getA sc j) :: st) ((.array .int, sc.map Value.int) :: R) Q) := w_ild at_41 rfl rfl
theorem m25_41p : M25 41 ls (.int j :: .ref 0 :: st) (put (b + 1) ((.array .int, sc.map Value.int) :: pre) s A post) Q = (inB j sc ∧ M25 42 ls (.int (getA sc j) :: st) (put (b + 1) ((.array .int, sc.map Value.int) :: pre) s A post) Q) := w_ild at_41 rfl rfl
theorem m25_42u : M25 42 [l0, l1, l2, l3, l4, .unset, l6, l7, l8, l9, l10, l11, l12, l13, l14, l15, l16, l17] ((.int v) :: st) H Q = M25 44 [l0, l1, l2, l3, l4, .val (.int v), l6, l7, l8, l9, l10, l11, l12, l13, l14, l15, l16, l17] st H Q := w_st (i := 5) (p := isI) at_42 rfl rfl rfl rfl rfl rfl
theorem m25_42i : M25 42 [l0, l1, l2, l3, l4, .val (.int z), l6, l7, l8, l9, l10, l11, l12, l13, l14, l15, l16, l17] ((.int v) :: st) H Q = M25 44 [l0, l1, l2, l3, l4, .val (.int v), l6, l7, l8, l9, l10, l11, l12, l13, l14, l15, l16, l17] st H Q := w_st (i := 5) (p := isI) at_42 rfl rfl rfl rfl rfl rfl
theorem m25_42r : M25 42 [l0, l1, l2, l3, l4, .val (.ref q), l6, l7, l8, l9, l10, l11, l12, l13, l14, l15, l16, l17] ((.int v) :: st) H Q = M25 44 [l0, l1, l2, l3, l4, .val (.int v), l6, l7, l8, l9, l10, l11, l12, l13, l14, l15, l16, l17] st H Q := w_st (i := 5) (p := isI) at_42 rfl rfl rfl rfl rfl rfl
theorem m25_42g (h : okS l5) : M25 42 [l0, l1, l2, l3, l4, l5, l6, l7, l8, l9, l10, l11, l12, l13, l14, l15, l16, l17] ((.int v) :: st) H Q = M25 44 [l0, l1, l2, l3, l4, .val (.int v), l6, l7, l8, l9, l10, l11, l12, l13, l14, l15, l16, l17] st H Q := by rcases h with rfl | ⟨z, rfl⟩ <;> first | exact m25_42u | exact m25_42i
theorem m25_44 : M25 44 [.val (.ref r), l1, l2, l3, l4, l5, l6, l7, l8, l9, l10, l11, l12, l13, l14, l15, l16, l17] st H Q = M25 45 [.val (.ref r), l1, l2, l3, l4, l5, l6, l7, l8, l9, l10, l11, l12, l13, l14, l15, l16, l17] (.ref r :: st) H Q := w_x at_44 rfl
theorem m25_45 : M25 45 [l0, l1, l2, .val (.int v), l4, l5, l6, l7, l8, l9, l10, l11, l12, l13, l14, l15, l16, l17] st H Q = M25 46 [l0, l1, l2, .val (.int v), l4, l5, l6, l7, l8, l9, l10, l11, l12, l13, l14, l15, l16, l17] (.int v :: st) H Q := w_x at_45 rfl
theorem m25_46 : M25 46 ls st H Q = M25 47 ls (.int 2 :: st) H Q := w_con at_46 rfl (by decide)
theorem m25_47 : M25 47 ls (.int y :: .int x :: st) H Q = M25 48 ls (.int (x + y) :: st) H Q := w_x at_47 rfl
theorem m25_48 : M25 48 ls (.int j :: .ref 0 :: st) ((.array .int, sc.map Value.int) :: R) Q = (inB j sc ∧ M25 49 ls (.int (getA sc j) :: st) ((.array .int, sc.map Value.int) :: R) Q) := w_ild at_48 rfl rfl
theorem m25_48p : M25 48 ls (.int j :: .ref 0 :: st) (put (b + 1) ((.array .int, sc.map Value.int) :: pre) s A post) Q = (inB j sc ∧ M25 49 ls (.int (getA sc j) :: st) (put (b + 1) ((.array .int, sc.map Value.int) :: pre) s A post) Q) := w_ild at_48 rfl rfl
theorem m25_49u : M25 49 [l0, l1, l2, l3, l4, l5, .unset, l7, l8, l9, l10, l11, l12, l13, l14, l15, l16, l17] ((.int v) :: st) H Q = M25 51 [l0, l1, l2, l3, l4, l5, .val (.int v), l7, l8, l9, l10, l11, l12, l13, l14, l15, l16, l17] st H Q := w_st (i := 6) (p := isI) at_49 rfl rfl rfl rfl rfl rfl
theorem m25_49i : M25 49 [l0, l1, l2, l3, l4, l5, .val (.int z), l7, l8, l9, l10, l11, l12, l13, l14, l15, l16, l17] ((.int v) :: st) H Q = M25 51 [l0, l1, l2, l3, l4, l5, .val (.int v), l7, l8, l9, l10, l11, l12, l13, l14, l15, l16, l17] st H Q := w_st (i := 6) (p := isI) at_49 rfl rfl rfl rfl rfl rfl
theorem m25_49r : M25 49 [l0, l1, l2, l3, l4, l5, .val (.ref q), l7, l8, l9, l10, l11, l12, l13, l14, l15, l16, l17] ((.int v) :: st) H Q = M25 51 [l0, l1, l2, l3, l4, l5, .val (.int v), l7, l8, l9, l10, l11, l12, l13, l14, l15, l16, l17] st H Q := w_st (i := 6) (p := isI) at_49 rfl rfl rfl rfl rfl rfl
theorem m25_49g (h : okS l6) : M25 49 [l0, l1, l2, l3, l4, l5, l6, l7, l8, l9, l10, l11, l12, l13, l14, l15, l16, l17] ((.int v) :: st) H Q = M25 51 [l0, l1, l2, l3, l4, l5, .val (.int v), l7, l8, l9, l10, l11, l12, l13, l14, l15, l16, l17] st H Q := by rcases h with rfl | ⟨z, rfl⟩ <;> first | exact m25_49u | exact m25_49i
theorem m25_51 : M25 51 [.val (.ref r), l1, l2, l3, l4, l5, l6, l7, l8, l9, l10, l11, l12, l13, l14, l15, l16, l17] st H Q = M25 52 [.val (.ref r), l1, l2, l3, l4, l5, l6, l7, l8, l9, l10, l11, l12, l13, l14, l15, l16, l17] (.ref r :: st) H Q := w_x at_51 rfl
theorem m25_52 : M25 52 [l0, l1, l2, .val (.int v), l4, l5, l6, l7, l8, l9, l10, l11, l12, l13, l14, l15, l16, l17] st H Q = M25 53 [l0, l1, l2, .val (.int v), l4, l5, l6, l7, l8, l9, l10, l11, l12, l13, l14, l15, l16, l17] (.int v :: st) H Q := w_x at_52 rfl
theorem m25_53 : M25 53 ls st H Q = M25 54 ls (.int 3 :: st) H Q := w_con at_53 rfl (by decide)
theorem m25_54 : M25 54 ls (.int y :: .int x :: st) H Q = M25 55 ls (.int (x + y) :: st) H Q := w_x at_54 rfl
theorem m25_55 : M25 55 ls (.int j :: .ref 0 :: st) ((.array .int, sc.map Value.int) :: R) Q = (inB j sc ∧ M25 56 ls (.int (getA sc j) :: st) ((.array .int, sc.map Value.int) :: R) Q) := w_ild at_55 rfl rfl
theorem m25_55p : M25 55 ls (.int j :: .ref 0 :: st) (put (b + 1) ((.array .int, sc.map Value.int) :: pre) s A post) Q = (inB j sc ∧ M25 56 ls (.int (getA sc j) :: st) (put (b + 1) ((.array .int, sc.map Value.int) :: pre) s A post) Q) := w_ild at_55 rfl rfl
theorem m25_56u : M25 56 [l0, l1, l2, l3, l4, l5, l6, .unset, l8, l9, l10, l11, l12, l13, l14, l15, l16, l17] ((.int v) :: st) H Q = M25 58 [l0, l1, l2, l3, l4, l5, l6, .val (.int v), l8, l9, l10, l11, l12, l13, l14, l15, l16, l17] st H Q := w_st (i := 7) (p := isI) at_56 rfl rfl rfl rfl rfl rfl
theorem m25_56i : M25 56 [l0, l1, l2, l3, l4, l5, l6, .val (.int z), l8, l9, l10, l11, l12, l13, l14, l15, l16, l17] ((.int v) :: st) H Q = M25 58 [l0, l1, l2, l3, l4, l5, l6, .val (.int v), l8, l9, l10, l11, l12, l13, l14, l15, l16, l17] st H Q := w_st (i := 7) (p := isI) at_56 rfl rfl rfl rfl rfl rfl
theorem m25_56r : M25 56 [l0, l1, l2, l3, l4, l5, l6, .val (.ref q), l8, l9, l10, l11, l12, l13, l14, l15, l16, l17] ((.int v) :: st) H Q = M25 58 [l0, l1, l2, l3, l4, l5, l6, .val (.int v), l8, l9, l10, l11, l12, l13, l14, l15, l16, l17] st H Q := w_st (i := 7) (p := isI) at_56 rfl rfl rfl rfl rfl rfl
theorem m25_56g (h : okS l7) : M25 56 [l0, l1, l2, l3, l4, l5, l6, l7, l8, l9, l10, l11, l12, l13, l14, l15, l16, l17] ((.int v) :: st) H Q = M25 58 [l0, l1, l2, l3, l4, l5, l6, .val (.int v), l8, l9, l10, l11, l12, l13, l14, l15, l16, l17] st H Q := by rcases h with rfl | ⟨z, rfl⟩ <;> first | exact m25_56u | exact m25_56i
theorem m25_58 : M25 58 [l0, l1, l2, l3, .val (.int v), l5, l6, l7, l8, l9, l10, l11, l12, l13, l14, l15, l16, l17] st H Q = M25 60 [l0, l1, l2, l3, .val (.int v), l5, l6, l7, l8, l9, l10, l11, l12, l13, l14, l15, l16, l17] (.int v :: st) H Q := w_x at_58 rfl
theorem m25_60 : M25 60 ls (.int x :: st) H Q = if x = 0 then M25 63 ls st H Q else M25 102 ls st H Q := w_ifN at_60 (z_ne x) rfl
theorem m25_63 : M25 63 [l0, l1, l2, l3, l4, .val (.int v), l6, l7, l8, l9, l10, l11, l12, l13, l14, l15, l16, l17] st H Q = M25 65 [l0, l1, l2, l3, l4, .val (.int v), l6, l7, l8, l9, l10, l11, l12, l13, l14, l15, l16, l17] (.int v :: st) H Q := w_x at_63 rfl
theorem m25_65 : M25 65 ls st H Q = M25 67 ls (.int 7 :: st) H Q := w_con at_65 rfl (by decide)
theorem m25_67 : M25 67 ls (.int y :: .int x :: st) H Q = M25 68 ls (.int (x &&& y) :: st) H Q := w_x at_67 rfl
theorem m25_68 : M25 68 ls st H Q = M25 69 ls (.int 5 :: st) H Q := w_con at_68 rfl (by decide)
theorem m25_69 : M25 69 ls (.int y :: .int x :: st) H Q = (y ≠ 0 ∧ M25 70 ls (.int (x % y) :: st) H Q) := w_div (f := fun x y => x % y) at_69 (fun _ => rfl) rfl rfl
theorem m25_70 : M25 70 ls st H Q = M25 71 ls (.int 1 :: st) H Q := w_con at_70 rfl (by decide)
theorem m25_71 : M25 71 ls (.int y :: .int x :: st) H Q = M25 72 ls (.int (x - y) :: st) H Q := w_x at_71 rfl
theorem m25_72u : M25 72 [l0, l1, l2, l3, l4, l5, l6, l7, .unset, l9, l10, l11, l12, l13, l14, l15, l16, l17] ((.int v) :: st) H Q = M25 74 [l0, l1, l2, l3, l4, l5, l6, l7, .val (.int v), l9, l10, l11, l12, l13, l14, l15, l16, l17] st H Q := w_st (i := 8) (p := isI) at_72 rfl rfl rfl rfl rfl rfl
theorem m25_72i : M25 72 [l0, l1, l2, l3, l4, l5, l6, l7, .val (.int z), l9, l10, l11, l12, l13, l14, l15, l16, l17] ((.int v) :: st) H Q = M25 74 [l0, l1, l2, l3, l4, l5, l6, l7, .val (.int v), l9, l10, l11, l12, l13, l14, l15, l16, l17] st H Q := w_st (i := 8) (p := isI) at_72 rfl rfl rfl rfl rfl rfl
theorem m25_72r : M25 72 [l0, l1, l2, l3, l4, l5, l6, l7, .val (.ref q), l9, l10, l11, l12, l13, l14, l15, l16, l17] ((.int v) :: st) H Q = M25 74 [l0, l1, l2, l3, l4, l5, l6, l7, .val (.int v), l9, l10, l11, l12, l13, l14, l15, l16, l17] st H Q := w_st (i := 8) (p := isI) at_72 rfl rfl rfl rfl rfl rfl
theorem m25_72g (h : okS l8) : M25 72 [l0, l1, l2, l3, l4, l5, l6, l7, l8, l9, l10, l11, l12, l13, l14, l15, l16, l17] ((.int v) :: st) H Q = M25 74 [l0, l1, l2, l3, l4, l5, l6, l7, .val (.int v), l9, l10, l11, l12, l13, l14, l15, l16, l17] st H Q := by rcases h with rfl | ⟨z, rfl⟩ <;> first | exact m25_72u | exact m25_72i
theorem m25_74 : M25 74 [l0, .val (.ref r), l2, l3, l4, l5, l6, l7, l8, l9, l10, l11, l12, l13, l14, l15, l16, l17] st H Q = M25 75 [l0, .val (.ref r), l2, l3, l4, l5, l6, l7, l8, l9, l10, l11, l12, l13, l14, l15, l16, l17] (.ref r :: st) H Q := w_x at_74 rfl
theorem m25_75 : M25 75 [l0, l1, l2, l3, l4, l5, l6, l7, .val (.int v), l9, l10, l11, l12, l13, l14, l15, l16, l17] st H Q = M25 77 [l0, l1, l2, l3, l4, l5, l6, l7, .val (.int v), l9, l10, l11, l12, l13, l14, l15, l16, l17] (.int v :: st) H Q := w_x at_75 rfl
theorem cr25_28 : vR tables_1 dn y25 28 = some (false, y10, prog_1_method_2_code, 3, (some .int), 1, 34) := vR_of (cR_of (by decide +kernel) rc_10 dn_10 dn_25 (sig := ⟨[.int], some .int⟩) (by decide +kernel) (by decide +kernel) rfl rfl) (by decide +kernel) (by decide +kernel) (by decide +kernel)
theorem m25_77 (a0 : Int32) : M25 77 ls [.int a0, .ref (b + 1)] (put (b + 1) pre s A post) Q = M10 0 [.val (.ref (b + 1)), .val (.int a0), .unset] [] (put (b + 1) pre s A post) (fun v H1 => M25 80 ls (v.toList ++ []) H1 Q) := w_virt (as := [.int a0]) (rest := []) (a := (b + 1)) at_77 cr25_28 put_o rfl rfl (Nat.le_of_ble_eq_true rfl) (by show 2 ≤ 3; omega) rfl
theorem m25_80u : M25 80 [l0, l1, l2, l3, l4, l5, l6, l7, l8, .unset, l10, l11, l12, l13, l14, l15, l16, l17] ((.int v) :: st) H Q = M25 82 [l0, l1, l2, l3, l4, l5, l6, l7, l8, .val (.int v), l10, l11, l12, l13, l14, l15, l16, l17] st H Q := w_st (i := 9) (p := isI) at_80 rfl rfl rfl rfl rfl rfl
theorem m25_80i : M25 80 [l0, l1, l2, l3, l4, l5, l6, l7, l8, .val (.int z), l10, l11, l12, l13, l14, l15, l16, l17] ((.int v) :: st) H Q = M25 82 [l0, l1, l2, l3, l4, l5, l6, l7, l8, .val (.int v), l10, l11, l12, l13, l14, l15, l16, l17] st H Q := w_st (i := 9) (p := isI) at_80 rfl rfl rfl rfl rfl rfl
theorem m25_80r : M25 80 [l0, l1, l2, l3, l4, l5, l6, l7, l8, .val (.ref q), l10, l11, l12, l13, l14, l15, l16, l17] ((.int v) :: st) H Q = M25 82 [l0, l1, l2, l3, l4, l5, l6, l7, l8, .val (.int v), l10, l11, l12, l13, l14, l15, l16, l17] st H Q := w_st (i := 9) (p := isI) at_80 rfl rfl rfl rfl rfl rfl
theorem m25_80g (h : okS l9) : M25 80 [l0, l1, l2, l3, l4, l5, l6, l7, l8, l9, l10, l11, l12, l13, l14, l15, l16, l17] ((.int v) :: st) H Q = M25 82 [l0, l1, l2, l3, l4, l5, l6, l7, l8, .val (.int v), l10, l11, l12, l13, l14, l15, l16, l17] st H Q := by rcases h with rfl | ⟨z, rfl⟩ <;> first | exact m25_80u | exact m25_80i
theorem m25_82 : M25 82 [l0, l1, .val (.ref r), l3, l4, l5, l6, l7, l8, l9, l10, l11, l12, l13, l14, l15, l16, l17] st H Q = M25 83 [l0, l1, .val (.ref r), l3, l4, l5, l6, l7, l8, l9, l10, l11, l12, l13, l14, l15, l16, l17] (.ref r :: st) H Q := w_x at_82 rfl
theorem m25_83 : M25 83 [l0, l1, l2, l3, l4, l5, l6, l7, .val (.int v), l9, l10, l11, l12, l13, l14, l15, l16, l17] st H Q = M25 85 [l0, l1, l2, l3, l4, l5, l6, l7, .val (.int v), l9, l10, l11, l12, l13, l14, l15, l16, l17] (.int v :: st) H Q := w_x at_83 rfl
theorem m25_85 (a0 : Int32) : M25 85 ls [.int a0, .ref (b + 1)] (put (b + 1) pre s A post) Q = M10 0 [.val (.ref (b + 1)), .val (.int a0), .unset] [] (put (b + 1) pre s A post) (fun v H1 => M25 88 ls (v.toList ++ []) H1 Q) := w_virt (as := [.int a0]) (rest := []) (a := (b + 1)) at_85 cr25_28 put_o rfl rfl (Nat.le_of_ble_eq_true rfl) (by show 2 ≤ 3; omega) rfl
theorem m25_88u : M25 88 [l0, l1, l2, l3, l4, l5, l6, l7, l8, l9, .unset, l11, l12, l13, l14, l15, l16, l17] ((.int v) :: st) H Q = M25 90 [l0, l1, l2, l3, l4, l5, l6, l7, l8, l9, .val (.int v), l11, l12, l13, l14, l15, l16, l17] st H Q := w_st (i := 10) (p := isI) at_88 rfl rfl rfl rfl rfl rfl
theorem m25_88i : M25 88 [l0, l1, l2, l3, l4, l5, l6, l7, l8, l9, .val (.int z), l11, l12, l13, l14, l15, l16, l17] ((.int v) :: st) H Q = M25 90 [l0, l1, l2, l3, l4, l5, l6, l7, l8, l9, .val (.int v), l11, l12, l13, l14, l15, l16, l17] st H Q := w_st (i := 10) (p := isI) at_88 rfl rfl rfl rfl rfl rfl
theorem m25_88r : M25 88 [l0, l1, l2, l3, l4, l5, l6, l7, l8, l9, .val (.ref q), l11, l12, l13, l14, l15, l16, l17] ((.int v) :: st) H Q = M25 90 [l0, l1, l2, l3, l4, l5, l6, l7, l8, l9, .val (.int v), l11, l12, l13, l14, l15, l16, l17] st H Q := w_st (i := 10) (p := isI) at_88 rfl rfl rfl rfl rfl rfl
theorem m25_88g (h : okS l10) : M25 88 [l0, l1, l2, l3, l4, l5, l6, l7, l8, l9, l10, l11, l12, l13, l14, l15, l16, l17] ((.int v) :: st) H Q = M25 90 [l0, l1, l2, l3, l4, l5, l6, l7, l8, l9, .val (.int v), l11, l12, l13, l14, l15, l16, l17] st H Q := by rcases h with rfl | ⟨z, rfl⟩ <;> first | exact m25_88u | exact m25_88i
theorem m25_90 : M25 90 [l0, l1, l2, l3, l4, l5, l6, l7, l8, .val (.int v), l10, l11, l12, l13, l14, l15, l16, l17] st H Q = M25 92 [l0, l1, l2, l3, l4, l5, l6, l7, l8, .val (.int v), l10, l11, l12, l13, l14, l15, l16, l17] (.int v :: st) H Q := w_x at_90 rfl
theorem m25_92 : M25 92 [l0, l1, l2, l3, l4, l5, l6, l7, l8, l9, .val (.int v), l11, l12, l13, l14, l15, l16, l17] st H Q = M25 94 [l0, l1, l2, l3, l4, l5, l6, l7, l8, l9, .val (.int v), l11, l12, l13, l14, l15, l16, l17] (.int v :: st) H Q := w_x at_92 rfl
theorem m25_94 : M25 94 ls (.int y :: .int x :: st) H Q = if x = y then M25 99 ls st H Q else M25 97 ls st H Q := w_icmp at_94 (i_eq x y) rfl
theorem m25_97 : M25 97 ls st H Q = M25 98 ls (.int 0 :: st) H Q := w_con at_97 rfl (by decide)
theorem m25_98 : M25 98 ls (.int z :: st) H Q = Q (some (.int (nar .boolean z))) H := w_iretN at_98 rfl (by simp)
theorem m25_99 : M25 99 ls st H Q = M25 383 ls st H Q := w_x at_99 rfl
theorem m25_102 : M25 102 [l0, l1, l2, l3, .val (.int v), l5, l6, l7, l8, l9, l10, l11, l12, l13, l14, l15, l16, l17] st H Q = M25 104 [l0, l1, l2, l3, .val (.int v), l5, l6, l7, l8, l9, l10, l11, l12, l13, l14, l15, l16, l17] (.int v :: st) H Q := w_x at_102 rfl
theorem m25_104 : M25 104 ls st H Q = M25 105 ls (.int 1 :: st) H Q := w_con at_104 rfl (by decide)
theorem m25_105 : M25 105 ls (.int y :: .int x :: st) H Q = if x = y then M25 108 ls st H Q else M25 132 ls st H Q := w_icmpN at_105 (i_ne x y) rfl
theorem m25_108 : M25 108 [l0, .val (.ref r), l2, l3, l4, l5, l6, l7, l8, l9, l10, l11, l12, l13, l14, l15, l16, l17] st H Q = M25 109 [l0, .val (.ref r), l2, l3, l4, l5, l6, l7, l8, l9, l10, l11, l12, l13, l14, l15, l16, l17] (.ref r :: st) H Q := w_x at_108 rfl
theorem cr25_31 : vR tables_1 dn y25 31 = some (false, y9, prog_1_method_3_code, 2, (some .int), 0, 48) := vR_of (cR_of (by decide +kernel) rc_9 dn_9 dn_25 (sig := ⟨[], some .int⟩) (by decide +kernel) (by decide +kernel) rfl rfl) (by decide +kernel) (by decide +kernel) (by decide +kernel)
theorem m25_109 : M25 109 ls [.ref (b + 1)] (put (b + 1) pre s A post) Q = M9 0 [.val (.ref (b + 1)), .unset] [] (put (b + 1) pre s A post) (fun v H1 => M25 112 ls (v.toList ++ []) H1 Q) := w_virt (as := []) (rest := []) (a := (b + 1)) at_109 cr25_31 put_o rfl rfl (Nat.le_of_ble_eq_true rfl) (by show 1 ≤ 2; omega) rfl
theorem m25_112u : M25 112 [l0, l1, l2, l3, l4, l5, l6, l7, .unset, l9, l10, l11, l12, l13, l14, l15, l16, l17] ((.int v) :: st) H Q = M25 114 [l0, l1, l2, l3, l4, l5, l6, l7, .val (.int v), l9, l10, l11, l12, l13, l14, l15, l16, l17] st H Q := w_st (i := 8) (p := isI) at_112 rfl rfl rfl rfl rfl rfl
theorem m25_112i : M25 112 [l0, l1, l2, l3, l4, l5, l6, l7, .val (.int z), l9, l10, l11, l12, l13, l14, l15, l16, l17] ((.int v) :: st) H Q = M25 114 [l0, l1, l2, l3, l4, l5, l6, l7, .val (.int v), l9, l10, l11, l12, l13, l14, l15, l16, l17] st H Q := w_st (i := 8) (p := isI) at_112 rfl rfl rfl rfl rfl rfl
theorem m25_112r : M25 112 [l0, l1, l2, l3, l4, l5, l6, l7, .val (.ref q), l9, l10, l11, l12, l13, l14, l15, l16, l17] ((.int v) :: st) H Q = M25 114 [l0, l1, l2, l3, l4, l5, l6, l7, .val (.int v), l9, l10, l11, l12, l13, l14, l15, l16, l17] st H Q := w_st (i := 8) (p := isI) at_112 rfl rfl rfl rfl rfl rfl
theorem m25_112g (h : okS l8) : M25 112 [l0, l1, l2, l3, l4, l5, l6, l7, l8, l9, l10, l11, l12, l13, l14, l15, l16, l17] ((.int v) :: st) H Q = M25 114 [l0, l1, l2, l3, l4, l5, l6, l7, .val (.int v), l9, l10, l11, l12, l13, l14, l15, l16, l17] st H Q := by rcases h with rfl | ⟨z, rfl⟩ <;> first | exact m25_112u | exact m25_112i
theorem m25_114 : M25 114 [l0, l1, .val (.ref r), l3, l4, l5, l6, l7, l8, l9, l10, l11, l12, l13, l14, l15, l16, l17] st H Q = M25 115 [l0, l1, .val (.ref r), l3, l4, l5, l6, l7, l8, l9, l10, l11, l12, l13, l14, l15, l16, l17] (.ref r :: st) H Q := w_x at_114 rfl
theorem m25_115 : M25 115 ls [.ref (b + 1)] (put (b + 1) pre s A post) Q = M9 0 [.val (.ref (b + 1)), .unset] [] (put (b + 1) pre s A post) (fun v H1 => M25 118 ls (v.toList ++ []) H1 Q) := w_virt (as := []) (rest := []) (a := (b + 1)) at_115 cr25_31 put_o rfl rfl (Nat.le_of_ble_eq_true rfl) (by show 1 ≤ 2; omega) rfl
theorem m25_118u : M25 118 [l0, l1, l2, l3, l4, l5, l6, l7, l8, .unset, l10, l11, l12, l13, l14, l15, l16, l17] ((.int v) :: st) H Q = M25 120 [l0, l1, l2, l3, l4, l5, l6, l7, l8, .val (.int v), l10, l11, l12, l13, l14, l15, l16, l17] st H Q := w_st (i := 9) (p := isI) at_118 rfl rfl rfl rfl rfl rfl
theorem m25_118i : M25 118 [l0, l1, l2, l3, l4, l5, l6, l7, l8, .val (.int z), l10, l11, l12, l13, l14, l15, l16, l17] ((.int v) :: st) H Q = M25 120 [l0, l1, l2, l3, l4, l5, l6, l7, l8, .val (.int v), l10, l11, l12, l13, l14, l15, l16, l17] st H Q := w_st (i := 9) (p := isI) at_118 rfl rfl rfl rfl rfl rfl
theorem m25_118r : M25 118 [l0, l1, l2, l3, l4, l5, l6, l7, l8, .val (.ref q), l10, l11, l12, l13, l14, l15, l16, l17] ((.int v) :: st) H Q = M25 120 [l0, l1, l2, l3, l4, l5, l6, l7, l8, .val (.int v), l10, l11, l12, l13, l14, l15, l16, l17] st H Q := w_st (i := 9) (p := isI) at_118 rfl rfl rfl rfl rfl rfl
theorem m25_118g (h : okS l9) : M25 118 [l0, l1, l2, l3, l4, l5, l6, l7, l8, l9, l10, l11, l12, l13, l14, l15, l16, l17] ((.int v) :: st) H Q = M25 120 [l0, l1, l2, l3, l4, l5, l6, l7, l8, .val (.int v), l10, l11, l12, l13, l14, l15, l16, l17] st H Q := by rcases h with rfl | ⟨z, rfl⟩ <;> first | exact m25_118u | exact m25_118i
theorem m25_120 : M25 120 [l0, l1, l2, l3, l4, l5, l6, l7, .val (.int v), l9, l10, l11, l12, l13, l14, l15, l16, l17] st H Q = M25 122 [l0, l1, l2, l3, l4, l5, l6, l7, .val (.int v), l9, l10, l11, l12, l13, l14, l15, l16, l17] (.int v :: st) H Q := w_x at_120 rfl
theorem m25_122 : M25 122 [l0, l1, l2, l3, l4, l5, l6, l7, l8, .val (.int v), l10, l11, l12, l13, l14, l15, l16, l17] st H Q = M25 124 [l0, l1, l2, l3, l4, l5, l6, l7, l8, .val (.int v), l10, l11, l12, l13, l14, l15, l16, l17] (.int v :: st) H Q := w_x at_122 rfl
theorem m25_124 : M25 124 ls (.int y :: .int x :: st) H Q = if x = y then M25 129 ls st H Q else M25 127 ls st H Q := w_icmp at_124 (i_eq x y) rfl
theorem m25_127 : M25 127 ls st H Q = M25 128 ls (.int 0 :: st) H Q := w_con at_127 rfl (by decide)
theorem m25_128 : M25 128 ls (.int z :: st) H Q = Q (some (.int (nar .boolean z))) H := w_iretN at_128 rfl (by simp)
theorem m25_129 : M25 129 ls st H Q = M25 383 ls st H Q := w_x at_129 rfl
theorem m25_132 : M25 132 [l0, l1, l2, l3, .val (.int v), l5, l6, l7, l8, l9, l10, l11, l12, l13, l14, l15, l16, l17] st H Q = M25 134 [l0, l1, l2, l3, .val (.int v), l5, l6, l7, l8, l9, l10, l11, l12, l13, l14, l15, l16, l17] (.int v :: st) H Q := w_x at_132 rfl
theorem m25_134 : M25 134 ls st H Q = M25 135 ls (.int 2 :: st) H Q := w_con at_134 rfl (by decide)
theorem m25_135 : M25 135 ls (.int y :: .int x :: st) H Q = if x = y then M25 138 ls st H Q else M25 162 ls st H Q := w_icmpN at_135 (i_ne x y) rfl
theorem m25_138 : M25 138 [l0, .val (.ref r), l2, l3, l4, l5, l6, l7, l8, l9, l10, l11, l12, l13, l14, l15, l16, l17] st H Q = M25 139 [l0, .val (.ref r), l2, l3, l4, l5, l6, l7, l8, l9, l10, l11, l12, l13, l14, l15, l16, l17] (.ref r :: st) H Q := w_x at_138 rfl
theorem cr25_35 : vR tables_1 dn y25 35 = some (false, y12, prog_1_method_4_code, 1, (some .int), 0, 17) := vR_of (cR_of (by decide +kernel) rc_12 dn_12 dn_25 (sig := ⟨[], some .int⟩) (by decide +kernel) (by decide +kernel) rfl rfl) (by decide +kernel) (by decide +kernel) (by decide +kernel)
theorem m25_139 : M25 139 ls [.ref (b + 1)] (put (b + 1) pre s A post) Q = M12 0 [.val (.ref (b + 1))] [] (put (b + 1) pre s A post) (fun v H1 => M25 142 ls (v.toList ++ []) H1 Q) := w_virt (as := []) (rest := []) (a := (b + 1)) at_139 cr25_35 put_o rfl rfl (Nat.le_of_ble_eq_true rfl) (by show 1 ≤ 1; omega) rfl
theorem m25_142u : M25 142 [l0, l1, l2, l3, l4, l5, l6, l7, .unset, l9, l10, l11, l12, l13, l14, l15, l16, l17] ((.int v) :: st) H Q = M25 144 [l0, l1, l2, l3, l4, l5, l6, l7, .val (.int v), l9, l10, l11, l12, l13, l14, l15, l16, l17] st H Q := w_st (i := 8) (p := isI) at_142 rfl rfl rfl rfl rfl rfl
theorem m25_142i : M25 142 [l0, l1, l2, l3, l4, l5, l6, l7, .val (.int z), l9, l10, l11, l12, l13, l14, l15, l16, l17] ((.int v) :: st) H Q = M25 144 [l0, l1, l2, l3, l4, l5, l6, l7, .val (.int v), l9, l10, l11, l12, l13, l14, l15, l16, l17] st H Q := w_st (i := 8) (p := isI) at_142 rfl rfl rfl rfl rfl rfl
theorem m25_142r : M25 142 [l0, l1, l2, l3, l4, l5, l6, l7, .val (.ref q), l9, l10, l11, l12, l13, l14, l15, l16, l17] ((.int v) :: st) H Q = M25 144 [l0, l1, l2, l3, l4, l5, l6, l7, .val (.int v), l9, l10, l11, l12, l13, l14, l15, l16, l17] st H Q := w_st (i := 8) (p := isI) at_142 rfl rfl rfl rfl rfl rfl
theorem m25_142g (h : okS l8) : M25 142 [l0, l1, l2, l3, l4, l5, l6, l7, l8, l9, l10, l11, l12, l13, l14, l15, l16, l17] ((.int v) :: st) H Q = M25 144 [l0, l1, l2, l3, l4, l5, l6, l7, .val (.int v), l9, l10, l11, l12, l13, l14, l15, l16, l17] st H Q := by rcases h with rfl | ⟨z, rfl⟩ <;> first | exact m25_142u | exact m25_142i
theorem m25_144 : M25 144 [l0, l1, .val (.ref r), l3, l4, l5, l6, l7, l8, l9, l10, l11, l12, l13, l14, l15, l16, l17] st H Q = M25 145 [l0, l1, .val (.ref r), l3, l4, l5, l6, l7, l8, l9, l10, l11, l12, l13, l14, l15, l16, l17] (.ref r :: st) H Q := w_x at_144 rfl
theorem m25_145 : M25 145 ls [.ref (b + 1)] (put (b + 1) pre s A post) Q = M12 0 [.val (.ref (b + 1))] [] (put (b + 1) pre s A post) (fun v H1 => M25 148 ls (v.toList ++ []) H1 Q) := w_virt (as := []) (rest := []) (a := (b + 1)) at_145 cr25_35 put_o rfl rfl (Nat.le_of_ble_eq_true rfl) (by show 1 ≤ 1; omega) rfl
theorem m25_148u : M25 148 [l0, l1, l2, l3, l4, l5, l6, l7, l8, .unset, l10, l11, l12, l13, l14, l15, l16, l17] ((.int v) :: st) H Q = M25 150 [l0, l1, l2, l3, l4, l5, l6, l7, l8, .val (.int v), l10, l11, l12, l13, l14, l15, l16, l17] st H Q := w_st (i := 9) (p := isI) at_148 rfl rfl rfl rfl rfl rfl
theorem m25_148i : M25 148 [l0, l1, l2, l3, l4, l5, l6, l7, l8, .val (.int z), l10, l11, l12, l13, l14, l15, l16, l17] ((.int v) :: st) H Q = M25 150 [l0, l1, l2, l3, l4, l5, l6, l7, l8, .val (.int v), l10, l11, l12, l13, l14, l15, l16, l17] st H Q := w_st (i := 9) (p := isI) at_148 rfl rfl rfl rfl rfl rfl
theorem m25_148r : M25 148 [l0, l1, l2, l3, l4, l5, l6, l7, l8, .val (.ref q), l10, l11, l12, l13, l14, l15, l16, l17] ((.int v) :: st) H Q = M25 150 [l0, l1, l2, l3, l4, l5, l6, l7, l8, .val (.int v), l10, l11, l12, l13, l14, l15, l16, l17] st H Q := w_st (i := 9) (p := isI) at_148 rfl rfl rfl rfl rfl rfl
theorem m25_148g (h : okS l9) : M25 148 [l0, l1, l2, l3, l4, l5, l6, l7, l8, l9, l10, l11, l12, l13, l14, l15, l16, l17] ((.int v) :: st) H Q = M25 150 [l0, l1, l2, l3, l4, l5, l6, l7, l8, .val (.int v), l10, l11, l12, l13, l14, l15, l16, l17] st H Q := by rcases h with rfl | ⟨z, rfl⟩ <;> first | exact m25_148u | exact m25_148i
theorem m25_150 : M25 150 [l0, l1, l2, l3, l4, l5, l6, l7, .val (.int v), l9, l10, l11, l12, l13, l14, l15, l16, l17] st H Q = M25 152 [l0, l1, l2, l3, l4, l5, l6, l7, .val (.int v), l9, l10, l11, l12, l13, l14, l15, l16, l17] (.int v :: st) H Q := w_x at_150 rfl
theorem m25_152 : M25 152 [l0, l1, l2, l3, l4, l5, l6, l7, l8, .val (.int v), l10, l11, l12, l13, l14, l15, l16, l17] st H Q = M25 154 [l0, l1, l2, l3, l4, l5, l6, l7, l8, .val (.int v), l10, l11, l12, l13, l14, l15, l16, l17] (.int v :: st) H Q := w_x at_152 rfl
theorem m25_154 : M25 154 ls (.int y :: .int x :: st) H Q = if x = y then M25 159 ls st H Q else M25 157 ls st H Q := w_icmp at_154 (i_eq x y) rfl
theorem m25_157 : M25 157 ls st H Q = M25 158 ls (.int 0 :: st) H Q := w_con at_157 rfl (by decide)
theorem m25_158 : M25 158 ls (.int z :: st) H Q = Q (some (.int (nar .boolean z))) H := w_iretN at_158 rfl (by simp)
theorem m25_159 : M25 159 ls st H Q = M25 383 ls st H Q := w_x at_159 rfl
theorem m25_162 : M25 162 [l0, .val (.ref r), l2, l3, l4, l5, l6, l7, l8, l9, l10, l11, l12, l13, l14, l15, l16, l17] st H Q = M25 163 [l0, .val (.ref r), l2, l3, l4, l5, l6, l7, l8, l9, l10, l11, l12, l13, l14, l15, l16, l17] (.ref r :: st) H Q := w_x at_162 rfl
theorem m25_163 : M25 163 ls st H Q = M25 164 ls (.int 0 :: st) H Q := w_con at_163 rfl (by decide)
theorem cr25_7 : vR tables_1 dn y25 7 = some (false, y1, prog_1_method_16_code, 2, (some .int), 1, 35) := vR_of (cR_of (by decide +kernel) rc_1 dn_1 dn_25 (sig := ⟨[.int], some .int⟩) (by decide +kernel) (by decide +kernel) rfl rfl) (by decide +kernel) (by decide +kernel) (by decide +kernel)
theorem m25_164 (a0 : Int32) : M25 164 ls [.int a0, .ref (b + 1)] (put (b + 1) pre s A post) Q = M1 0 [.val (.ref (b + 1)), .val (.int a0)] [] (put (b + 1) pre s A post) (fun v H1 => M25 167 ls (v.toList ++ []) H1 Q) := w_virt (as := [.int a0]) (rest := []) (a := (b + 1)) at_164 cr25_7 put_o rfl rfl (Nat.le_of_ble_eq_true rfl) (by show 2 ≤ 2; omega) rfl
theorem m25_167u : M25 167 [l0, l1, l2, l3, l4, l5, l6, l7, .unset, l9, l10, l11, l12, l13, l14, l15, l16, l17] ((.int v) :: st) H Q = M25 169 [l0, l1, l2, l3, l4, l5, l6, l7, .val (.int v), l9, l10, l11, l12, l13, l14, l15, l16, l17] st H Q := w_st (i := 8) (p := isI) at_167 rfl rfl rfl rfl rfl rfl
theorem m25_167i : M25 167 [l0, l1, l2, l3, l4, l5, l6, l7, .val (.int z), l9, l10, l11, l12, l13, l14, l15, l16, l17] ((.int v) :: st) H Q = M25 169 [l0, l1, l2, l3, l4, l5, l6, l7, .val (.int v), l9, l10, l11, l12, l13, l14, l15, l16, l17] st H Q := w_st (i := 8) (p := isI) at_167 rfl rfl rfl rfl rfl rfl
theorem m25_167r : M25 167 [l0, l1, l2, l3, l4, l5, l6, l7, .val (.ref q), l9, l10, l11, l12, l13, l14, l15, l16, l17] ((.int v) :: st) H Q = M25 169 [l0, l1, l2, l3, l4, l5, l6, l7, .val (.int v), l9, l10, l11, l12, l13, l14, l15, l16, l17] st H Q := w_st (i := 8) (p := isI) at_167 rfl rfl rfl rfl rfl rfl
theorem m25_167g (h : okS l8) : M25 167 [l0, l1, l2, l3, l4, l5, l6, l7, l8, l9, l10, l11, l12, l13, l14, l15, l16, l17] ((.int v) :: st) H Q = M25 169 [l0, l1, l2, l3, l4, l5, l6, l7, .val (.int v), l9, l10, l11, l12, l13, l14, l15, l16, l17] st H Q := by rcases h with rfl | ⟨z, rfl⟩ <;> first | exact m25_167u | exact m25_167i
theorem m25_169 : M25 169 [l0, l1, l2, l3, l4, l5, l6, l7, .val (.int v), l9, l10, l11, l12, l13, l14, l15, l16, l17] st H Q = M25 171 [l0, l1, l2, l3, l4, l5, l6, l7, .val (.int v), l9, l10, l11, l12, l13, l14, l15, l16, l17] (.int v :: st) H Q := w_x at_169 rfl
theorem m25_171 : M25 171 [l0, l1, l2, l3, l4, .val (.int v), l6, l7, l8, l9, l10, l11, l12, l13, l14, l15, l16, l17] st H Q = M25 173 [l0, l1, l2, l3, l4, .val (.int v), l6, l7, l8, l9, l10, l11, l12, l13, l14, l15, l16, l17] (.int v :: st) H Q := w_x at_171 rfl
theorem m25_173 : M25 173 ls st H Q = M25 175 ls (.int 7 :: st) H Q := w_con at_173 rfl (by decide)
theorem m25_175 : M25 175 ls (.int y :: .int x :: st) H Q = M25 176 ls (.int (x &&& y) :: st) H Q := w_x at_175 rfl
theorem m25_176 : M25 176 ls (.int y :: .int x :: st) H Q = M25 177 ls (.int (x + y) :: st) H Q := w_x at_176 rfl
theorem m25_177 : M25 177 ls st H Q = M25 178 ls (.int 4 :: st) H Q := w_con at_177 rfl (by decide)
theorem m25_178 : M25 178 ls (.int y :: .int x :: st) H Q = M25 179 ls (.int (x - y) :: st) H Q := w_x at_178 rfl
theorem m25_179u : M25 179 [l0, l1, l2, l3, l4, l5, l6, l7, l8, .unset, l10, l11, l12, l13, l14, l15, l16, l17] ((.int v) :: st) H Q = M25 181 [l0, l1, l2, l3, l4, l5, l6, l7, l8, .val (.int v), l10, l11, l12, l13, l14, l15, l16, l17] st H Q := w_st (i := 9) (p := isI) at_179 rfl rfl rfl rfl rfl rfl
theorem m25_179i : M25 179 [l0, l1, l2, l3, l4, l5, l6, l7, l8, .val (.int z), l10, l11, l12, l13, l14, l15, l16, l17] ((.int v) :: st) H Q = M25 181 [l0, l1, l2, l3, l4, l5, l6, l7, l8, .val (.int v), l10, l11, l12, l13, l14, l15, l16, l17] st H Q := w_st (i := 9) (p := isI) at_179 rfl rfl rfl rfl rfl rfl
theorem m25_179r : M25 179 [l0, l1, l2, l3, l4, l5, l6, l7, l8, .val (.ref q), l10, l11, l12, l13, l14, l15, l16, l17] ((.int v) :: st) H Q = M25 181 [l0, l1, l2, l3, l4, l5, l6, l7, l8, .val (.int v), l10, l11, l12, l13, l14, l15, l16, l17] st H Q := w_st (i := 9) (p := isI) at_179 rfl rfl rfl rfl rfl rfl
theorem m25_179g (h : okS l9) : M25 179 [l0, l1, l2, l3, l4, l5, l6, l7, l8, l9, l10, l11, l12, l13, l14, l15, l16, l17] ((.int v) :: st) H Q = M25 181 [l0, l1, l2, l3, l4, l5, l6, l7, l8, .val (.int v), l10, l11, l12, l13, l14, l15, l16, l17] st H Q := by rcases h with rfl | ⟨z, rfl⟩ <;> first | exact m25_179u | exact m25_179i
theorem m25_181 : M25 181 ls st H Q = M25 182 ls (.int 1 :: st) H Q := w_con at_181 rfl (by decide)
theorem m25_182 : M25 182 [l0, l1, l2, l3, l4, l5, .val (.int v), l7, l8, l9, l10, l11, l12, l13, l14, l15, l16, l17] st H Q = M25 184 [l0, l1, l2, l3, l4, l5, .val (.int v), l7, l8, l9, l10, l11, l12, l13, l14, l15, l16, l17] (.int v :: st) H Q := w_x at_182 rfl
theorem m25_184 : M25 184 ls st H Q = M25 186 ls (.int 7 :: st) H Q := w_con at_184 rfl (by decide)
theorem m25_186 : M25 186 ls (.int y :: .int x :: st) H Q = M25 187 ls (.int (x &&& y) :: st) H Q := w_x at_186 rfl
theorem m25_187 : M25 187 ls (.int y :: .int x :: st) H Q = M25 188 ls (.int (x + y) :: st) H Q := w_x at_187 rfl
theorem m25_188u : M25 188 [l0, l1, l2, l3, l4, l5, l6, l7, l8, l9, .unset, l11, l12, l13, l14, l15, l16, l17] ((.int v) :: st) H Q = M25 190 [l0, l1, l2, l3, l4, l5, l6, l7, l8, l9, .val (.int v), l11, l12, l13, l14, l15, l16, l17] st H Q := w_st (i := 10) (p := isI) at_188 rfl rfl rfl rfl rfl rfl
theorem m25_188i : M25 188 [l0, l1, l2, l3, l4, l5, l6, l7, l8, l9, .val (.int z), l11, l12, l13, l14, l15, l16, l17] ((.int v) :: st) H Q = M25 190 [l0, l1, l2, l3, l4, l5, l6, l7, l8, l9, .val (.int v), l11, l12, l13, l14, l15, l16, l17] st H Q := w_st (i := 10) (p := isI) at_188 rfl rfl rfl rfl rfl rfl
theorem m25_188r : M25 188 [l0, l1, l2, l3, l4, l5, l6, l7, l8, l9, .val (.ref q), l11, l12, l13, l14, l15, l16, l17] ((.int v) :: st) H Q = M25 190 [l0, l1, l2, l3, l4, l5, l6, l7, l8, l9, .val (.int v), l11, l12, l13, l14, l15, l16, l17] st H Q := w_st (i := 10) (p := isI) at_188 rfl rfl rfl rfl rfl rfl
theorem m25_188g (h : okS l10) : M25 188 [l0, l1, l2, l3, l4, l5, l6, l7, l8, l9, l10, l11, l12, l13, l14, l15, l16, l17] ((.int v) :: st) H Q = M25 190 [l0, l1, l2, l3, l4, l5, l6, l7, l8, l9, .val (.int v), l11, l12, l13, l14, l15, l16, l17] st H Q := by rcases h with rfl | ⟨z, rfl⟩ <;> first | exact m25_188u | exact m25_188i
theorem m25_190 : M25 190 [l0, l1, l2, l3, l4, l5, l6, l7, l8, .val (.int v), l10, l11, l12, l13, l14, l15, l16, l17] st H Q = M25 192 [l0, l1, l2, l3, l4, l5, l6, l7, l8, .val (.int v), l10, l11, l12, l13, l14, l15, l16, l17] (.int v :: st) H Q := w_x at_190 rfl
theorem m25_192 : M25 192 ls (.int x :: st) H Q = if x < 0 then M25 214 ls st H Q else M25 195 ls st H Q := w_if at_192 (z_lt x) rfl
theorem m25_195 : M25 195 [l0, l1, l2, l3, l4, l5, l6, l7, l8, .val (.int v), l10, l11, l12, l13, l14, l15, l16, l17] st H Q = M25 197 [l0, l1, l2, l3, l4, l5, l6, l7, l8, .val (.int v), l10, l11, l12, l13, l14, l15, l16, l17] (.int v :: st) H Q := w_x at_195 rfl
theorem m25_197 : M25 197 [l0, l1, l2, l3, l4, l5, l6, l7, l8, l9, .val (.int v), l11, l12, l13, l14, l15, l16, l17] st H Q = M25 199 [l0, l1, l2, l3, l4, l5, l6, l7, l8, l9, .val (.int v), l11, l12, l13, l14, l15, l16, l17] (.int v :: st) H Q := w_x at_197 rfl
theorem m25_199 : M25 199 ls (.int y :: .int x :: st) H Q = M25 200 ls (.int (x + y) :: st) H Q := w_x at_199 rfl
theorem m25_200 : M25 200 ls st H Q = M25 203 ls (.int 256 :: st) H Q := w_con at_200 rfl (by decide)
theorem m25_203 : M25 203 ls (.int y :: .int x :: st) H Q = if y < x then M25 206 ls st H Q else M25 214 ls st H Q := w_icmpN at_203 (i_le x y) rfl
theorem m25_206 : M25 206 ls st H Q = M25 209 ls (.int 256 :: st) H Q := w_con at_206 rfl (by decide)
theorem m25_209 : M25 209 [l0, l1, l2, l3, l4, l5, l6, l7, l8, .val (.int v), l10, l11, l12, l13, l14, l15, l16, l17] st H Q = M25 211 [l0, l1, l2, l3, l4, l5, l6, l7, l8, .val (.int v), l10, l11, l12, l13, l14, l15, l16, l17] (.int v :: st) H Q := w_x at_209 rfl
theorem m25_211 : M25 211 ls (.int y :: .int x :: st) H Q = M25 212 ls (.int (x - y) :: st) H Q := w_x at_211 rfl
theorem m25_212i : M25 212 [l0, l1, l2, l3, l4, l5, l6, l7, l8, l9, .val (.int z), l11, l12, l13, l14, l15, l16, l17] ((.int v) :: st) H Q = M25 214 [l0, l1, l2, l3, l4, l5, l6, l7, l8, l9, .val (.int v), l11, l12, l13, l14, l15, l16, l17] st H Q := w_st (i := 10) (p := isI) at_212 rfl rfl rfl rfl rfl rfl
theorem m25_214 : M25 214 [l0, l1, l2, l3, l4, l5, l6, l7, l8, l9, .val (.int v), l11, l12, l13, l14, l15, l16, l17] st H Q = M25 216 [l0, l1, l2, l3, l4, l5, l6, l7, l8, l9, .val (.int v), l11, l12, l13, l14, l15, l16, l17] (.int v :: st) H Q := w_x at_214 rfl
theorem m25_216 : M25 216 ls (.int x :: st) H Q = if 0 < x then M25 219 ls st H Q else M25 234 ls st H Q := w_ifN at_216 (z_le x) rfl
theorem m25_219 : M25 219 [l0, l1, l2, l3, l4, l5, .val (.int v), l7, l8, l9, l10, l11, l12, l13, l14, l15, l16, l17] st H Q = M25 221 [l0, l1, l2, l3, l4, l5, .val (.int v), l7, l8, l9, l10, l11, l12, l13, l14, l15, l16, l17] (.int v :: st) H Q := w_x at_219 rfl
theorem m25_221 : M25 221 ls st H Q = M25 222 ls (.int 3 :: st) H Q := w_con at_221 rfl (by decide)
theorem m25_222 : M25 222 ls (.int y :: .int x :: st) H Q = M25 223 ls (.int (x >>> (y &&& 31)) :: st) H Q := w_x at_222 rfl
theorem m25_223 : M25 223 ls st H Q = M25 225 ls (.int 15 :: st) H Q := w_con at_223 rfl (by decide)
theorem m25_225 : M25 225 ls (.int y :: .int x :: st) H Q = M25 226 ls (.int (x &&& y) :: st) H Q := w_x at_225 rfl
theorem m25_226 : M25 226 [l0, l1, l2, l3, l4, l5, l6, l7, l8, l9, .val (.int v), l11, l12, l13, l14, l15, l16, l17] st H Q = M25 228 [l0, l1, l2, l3, l4, l5, l6, l7, l8, l9, .val (.int v), l11, l12, l13, l14, l15, l16, l17] (.int v :: st) H Q := w_x at_226 rfl
theorem m25_228 : M25 228 ls st H Q = M25 229 ls (.int 1 :: st) H Q := w_con at_228 rfl (by decide)
theorem m25_229 : M25 229 ls (.int y :: .int x :: st) H Q = M25 230 ls (.int (x + y) :: st) H Q := w_x at_229 rfl
theorem m25_230 : M25 230 ls (.int y :: .int x :: st) H Q = (y ≠ 0 ∧ M25 231 ls (.int (x % y) :: st) H Q) := w_div (f := fun x y => x % y) at_230 (fun _ => rfl) rfl rfl
theorem m25_231 : M25 231 ls st H Q = M25 235 ls st H Q := w_x at_231 rfl
theorem m25_234 : M25 234 ls st H Q = M25 235 ls (.int 0 :: st) H Q := w_con at_234 rfl (by decide)
theorem m25_235u : M25 235 [l0, l1, l2, l3, l4, l5, l6, l7, l8, l9, l10, .unset, l12, l13, l14, l15, l16, l17] ((.int v) :: st) H Q = M25 237 [l0, l1, l2, l3, l4, l5, l6, l7, l8, l9, l10, .val (.int v), l12, l13, l14, l15, l16, l17] st H Q := w_st (i := 11) (p := isI) at_235 rfl rfl rfl rfl rfl rfl
theorem m25_235i : M25 235 [l0, l1, l2, l3, l4, l5, l6, l7, l8, l9, l10, .val (.int z), l12, l13, l14, l15, l16, l17] ((.int v) :: st) H Q = M25 237 [l0, l1, l2, l3, l4, l5, l6, l7, l8, l9, l10, .val (.int v), l12, l13, l14, l15, l16, l17] st H Q := w_st (i := 11) (p := isI) at_235 rfl rfl rfl rfl rfl rfl
theorem m25_235r : M25 235 [l0, l1, l2, l3, l4, l5, l6, l7, l8, l9, l10, .val (.ref q), l12, l13, l14, l15, l16, l17] ((.int v) :: st) H Q = M25 237 [l0, l1, l2, l3, l4, l5, l6, l7, l8, l9, l10, .val (.int v), l12, l13, l14, l15, l16, l17] st H Q := w_st (i := 11) (p := isI) at_235 rfl rfl rfl rfl rfl rfl
theorem m25_235g (h : okS l11) : M25 235 [l0, l1, l2, l3, l4, l5, l6, l7, l8, l9, l10, l11, l12, l13, l14, l15, l16, l17] ((.int v) :: st) H Q = M25 237 [l0, l1, l2, l3, l4, l5, l6, l7, l8, l9, l10, .val (.int v), l12, l13, l14, l15, l16, l17] st H Q := by rcases h with rfl | ⟨z, rfl⟩ <;> first | exact m25_235u | exact m25_235i
theorem m25_237 : M25 237 [l0, .val (.ref r), l2, l3, l4, l5, l6, l7, l8, l9, l10, l11, l12, l13, l14, l15, l16, l17] st H Q = M25 238 [l0, .val (.ref r), l2, l3, l4, l5, l6, l7, l8, l9, l10, l11, l12, l13, l14, l15, l16, l17] (.ref r :: st) H Q := w_x at_237 rfl
theorem m25_238 : M25 238 [l0, l1, l2, l3, l4, l5, l6, l7, l8, .val (.int v), l10, l11, l12, l13, l14, l15, l16, l17] st H Q = M25 240 [l0, l1, l2, l3, l4, l5, l6, l7, l8, .val (.int v), l10, l11, l12, l13, l14, l15, l16, l17] (.int v :: st) H Q := w_x at_238 rfl
theorem cr25_38 : vR tables_1 dn y25 38 = some (false, y2, prog_1_method_9_code, 2, (some .int), 1, 35) := vR_of (cR_of (by decide +kernel) rc_2 dn_2 dn_25 (sig := ⟨[.int], some .int⟩) (by decide +kernel) (by decide +kernel) rfl rfl) (by decide +kernel) (by decide +kernel) (by decide +kernel)
theorem m25_240 (a0 : Int32) : M25 240 ls [.int a0, .ref (b + 1)] (put (b + 1) pre s A post) Q = M2 0 [.val (.ref (b + 1)), .val (.int a0)] [] (put (b + 1) pre s A post) (fun v H1 => M25 243 ls (v.toList ++ []) H1 Q) := w_virt (as := [.int a0]) (rest := []) (a := (b + 1)) at_240 cr25_38 put_o rfl rfl (Nat.le_of_ble_eq_true rfl) (by show 2 ≤ 2; omega) rfl
theorem m25_243u : M25 243 [l0, l1, l2, l3, l4, l5, l6, l7, l8, l9, l10, l11, .unset, l13, l14, l15, l16, l17] ((.int v) :: st) H Q = M25 245 [l0, l1, l2, l3, l4, l5, l6, l7, l8, l9, l10, l11, .val (.int v), l13, l14, l15, l16, l17] st H Q := w_st (i := 12) (p := isI) at_243 rfl rfl rfl rfl rfl rfl
theorem m25_243i : M25 243 [l0, l1, l2, l3, l4, l5, l6, l7, l8, l9, l10, l11, .val (.int z), l13, l14, l15, l16, l17] ((.int v) :: st) H Q = M25 245 [l0, l1, l2, l3, l4, l5, l6, l7, l8, l9, l10, l11, .val (.int v), l13, l14, l15, l16, l17] st H Q := w_st (i := 12) (p := isI) at_243 rfl rfl rfl rfl rfl rfl
theorem m25_243r : M25 243 [l0, l1, l2, l3, l4, l5, l6, l7, l8, l9, l10, l11, .val (.ref q), l13, l14, l15, l16, l17] ((.int v) :: st) H Q = M25 245 [l0, l1, l2, l3, l4, l5, l6, l7, l8, l9, l10, l11, .val (.int v), l13, l14, l15, l16, l17] st H Q := w_st (i := 12) (p := isI) at_243 rfl rfl rfl rfl rfl rfl
theorem m25_243g (h : okS l12) : M25 243 [l0, l1, l2, l3, l4, l5, l6, l7, l8, l9, l10, l11, l12, l13, l14, l15, l16, l17] ((.int v) :: st) H Q = M25 245 [l0, l1, l2, l3, l4, l5, l6, l7, l8, l9, l10, l11, .val (.int v), l13, l14, l15, l16, l17] st H Q := by rcases h with rfl | ⟨z, rfl⟩ <;> first | exact m25_243u | exact m25_243i
theorem m25_245 : M25 245 [l0, l1, .val (.ref r), l3, l4, l5, l6, l7, l8, l9, l10, l11, l12, l13, l14, l15, l16, l17] st H Q = M25 246 [l0, l1, .val (.ref r), l3, l4, l5, l6, l7, l8, l9, l10, l11, l12, l13, l14, l15, l16, l17] (.ref r :: st) H Q := w_x at_245 rfl
theorem m25_246 : M25 246 [l0, l1, l2, l3, l4, l5, l6, l7, l8, .val (.int v), l10, l11, l12, l13, l14, l15, l16, l17] st H Q = M25 248 [l0, l1, l2, l3, l4, l5, l6, l7, l8, .val (.int v), l10, l11, l12, l13, l14, l15, l16, l17] (.int v :: st) H Q := w_x at_246 rfl
theorem m25_248 (a0 : Int32) : M25 248 ls [.int a0, .ref (b + 1)] (put (b + 1) pre s A post) Q = M2 0 [.val (.ref (b + 1)), .val (.int a0)] [] (put (b + 1) pre s A post) (fun v H1 => M25 251 ls (v.toList ++ []) H1 Q) := w_virt (as := [.int a0]) (rest := []) (a := (b + 1)) at_248 cr25_38 put_o rfl rfl (Nat.le_of_ble_eq_true rfl) (by show 2 ≤ 2; omega) rfl
theorem m25_251u : M25 251 [l0, l1, l2, l3, l4, l5, l6, l7, l8, l9, l10, l11, l12, .unset, l14, l15, l16, l17] ((.int v) :: st) H Q = M25 253 [l0, l1, l2, l3, l4, l5, l6, l7, l8, l9, l10, l11, l12, .val (.int v), l14, l15, l16, l17] st H Q := w_st (i := 13) (p := isI) at_251 rfl rfl rfl rfl rfl rfl
theorem m25_251i : M25 251 [l0, l1, l2, l3, l4, l5, l6, l7, l8, l9, l10, l11, l12, .val (.int z), l14, l15, l16, l17] ((.int v) :: st) H Q = M25 253 [l0, l1, l2, l3, l4, l5, l6, l7, l8, l9, l10, l11, l12, .val (.int v), l14, l15, l16, l17] st H Q := w_st (i := 13) (p := isI) at_251 rfl rfl rfl rfl rfl rfl
theorem m25_251r : M25 251 [l0, l1, l2, l3, l4, l5, l6, l7, l8, l9, l10, l11, l12, .val (.ref q), l14, l15, l16, l17] ((.int v) :: st) H Q = M25 253 [l0, l1, l2, l3, l4, l5, l6, l7, l8, l9, l10, l11, l12, .val (.int v), l14, l15, l16, l17] st H Q := w_st (i := 13) (p := isI) at_251 rfl rfl rfl rfl rfl rfl
theorem m25_251g (h : okS l13) : M25 251 [l0, l1, l2, l3, l4, l5, l6, l7, l8, l9, l10, l11, l12, l13, l14, l15, l16, l17] ((.int v) :: st) H Q = M25 253 [l0, l1, l2, l3, l4, l5, l6, l7, l8, l9, l10, l11, l12, .val (.int v), l14, l15, l16, l17] st H Q := by rcases h with rfl | ⟨z, rfl⟩ <;> first | exact m25_251u | exact m25_251i
theorem m25_253 : M25 253 [l0, l1, l2, l3, l4, l5, l6, l7, l8, l9, l10, l11, .val (.int v), l13, l14, l15, l16, l17] st H Q = M25 255 [l0, l1, l2, l3, l4, l5, l6, l7, l8, l9, l10, l11, .val (.int v), l13, l14, l15, l16, l17] (.int v :: st) H Q := w_x at_253 rfl
theorem m25_255 : M25 255 [l0, l1, l2, l3, l4, l5, l6, l7, l8, l9, l10, l11, l12, .val (.int v), l14, l15, l16, l17] st H Q = M25 257 [l0, l1, l2, l3, l4, l5, l6, l7, l8, l9, l10, l11, l12, .val (.int v), l14, l15, l16, l17] (.int v :: st) H Q := w_x at_255 rfl
theorem m25_257 : M25 257 ls (.int y :: .int x :: st) H Q = if x = y then M25 262 ls st H Q else M25 260 ls st H Q := w_icmp at_257 (i_eq x y) rfl
theorem m25_260 : M25 260 ls st H Q = M25 261 ls (.int 0 :: st) H Q := w_con at_260 rfl (by decide)
theorem m25_261 : M25 261 ls (.int z :: st) H Q = Q (some (.int (nar .boolean z))) H := w_iretN at_261 rfl (by simp)
theorem m25_262 : M25 262 [l0, l1, l2, l3, l4, l5, l6, l7, l8, l9, l10, l11, .val (.int v), l13, l14, l15, l16, l17] st H Q = M25 264 [l0, l1, l2, l3, l4, l5, l6, l7, l8, l9, l10, l11, .val (.int v), l13, l14, l15, l16, l17] (.int v :: st) H Q := w_x at_262 rfl
theorem m25_264 : M25 264 ls (.int x :: st) H Q = if x = 0 then M25 267 ls st H Q else M25 383 ls st H Q := w_ifN at_264 (z_ne x) rfl
theorem m25_267 : M25 267 [l0, .val (.ref r), l2, l3, l4, l5, l6, l7, l8, l9, l10, l11, l12, l13, l14, l15, l16, l17] st H Q = M25 268 [l0, .val (.ref r), l2, l3, l4, l5, l6, l7, l8, l9, l10, l11, l12, l13, l14, l15, l16, l17] (.ref r :: st) H Q := w_x at_267 rfl
theorem m25_268 : M25 268 [l0, l1, l2, l3, l4, l5, l6, .val (.int v), l8, l9, l10, l11, l12, l13, l14, l15, l16, l17] st H Q = M25 270 [l0, l1, l2, l3, l4, l5, l6, .val (.int v), l8, l9, l10, l11, l12, l13, l14, l15, l16, l17] (.int v :: st) H Q := w_x at_268 rfl
theorem m25_270 : M25 270 ls st H Q = M25 271 ls (.int 0 :: st) H Q := w_con at_270 rfl (by decide)
theorem m25_271 : M25 271 [l0, l1, l2, l3, l4, l5, l6, l7, l8, l9, .val (.int v), l11, l12, l13, l14, l15, l16, l17] st H Q = M25 273 [l0, l1, l2, l3, l4, l5, l6, l7, l8, l9, .val (.int v), l11, l12, l13, l14, l15, l16, l17] (.int v :: st) H Q := w_x at_271 rfl
theorem cr25_41 : sR tables_1 dn y25 41 = some (y24, method_3_code, 6, (some .boolean), 4, 18) := sR_of (cR_of (by decide +kernel) rc_24 dn_24 dn_25 (sig := ⟨[.object "StreamSigScanner", .int, .int, .int], some .boolean⟩) (by decide +kernel) (by decide +kernel) rfl rfl) (by decide +kernel)
theorem m25_273 (a0 : Nat) (a1 : Int32) (a2 : Int32) (a3 : Int32) : M25 273 ls [.int a3, .int a2, .int a1, .ref a0] H Q = M24 0 [.val (.ref a0), .val (.int a1), .val (.int a2), .val (.int a3), .unset, .unset] [] H (fun v H1 => M25 276 ls (v.toList ++ []) H1 Q) := w_stat (as := [.int a3, .int a2, .int a1, .ref a0]) (rest := []) at_273 cr25_41 rfl (Nat.le_of_ble_eq_true rfl) (by show 4 ≤ 6; omega) rfl
theorem m25_276 : M25 276 ls (.int x :: st) H Q = if x = 0 then M25 279 ls st H Q else M25 281 ls st H Q := w_ifN at_276 (z_ne x) rfl
theorem m25_279 : M25 279 ls st H Q = M25 280 ls (.int 0 :: st) H Q := w_con at_279 rfl (by decide)
theorem m25_280 : M25 280 ls (.int z :: st) H Q = Q (some (.int (nar .boolean z))) H := w_iretN at_280 rfl (by simp)
theorem m25_281 : M25 281 [l0, .val (.ref r), l2, l3, l4, l5, l6, l7, l8, l9, l10, l11, l12, l13, l14, l15, l16, l17] st H Q = M25 282 [l0, .val (.ref r), l2, l3, l4, l5, l6, l7, l8, l9, l10, l11, l12, l13, l14, l15, l16, l17] (.ref r :: st) H Q := w_x at_281 rfl
theorem cr25_47 : vR tables_1 dn y25 47 = some (false, y18, prog_1_method_11_code, 3, (some .int), 0, 0) := vR_of (cR_of (by decide +kernel) rc_18 dn_18 dn_25 (sig := ⟨[], some .int⟩) (by decide +kernel) (by decide +kernel) rfl rfl) (by decide +kernel) (by decide +kernel) (by decide +kernel)
theorem m25_282 : M25 282 ls [.ref (b + 1)] (put (b + 1) pre s A post) Q = M18 0 [.val (.ref (b + 1)), .unset, .unset] [] (put (b + 1) pre s A post) (fun v H1 => M25 285 ls (v.toList ++ []) H1 Q) := w_virt (as := []) (rest := []) (a := (b + 1)) at_282 cr25_47 put_o rfl rfl (Nat.le_of_ble_eq_true rfl) (by show 1 ≤ 3; omega) rfl
theorem m25_285u : M25 285 [l0, l1, l2, l3, l4, l5, l6, l7, l8, l9, l10, l11, l12, l13, .unset, l15, l16, l17] ((.int v) :: st) H Q = M25 287 [l0, l1, l2, l3, l4, l5, l6, l7, l8, l9, l10, l11, l12, l13, .val (.int v), l15, l16, l17] st H Q := w_st (i := 14) (p := isI) at_285 rfl rfl rfl rfl rfl rfl
theorem m25_285i : M25 285 [l0, l1, l2, l3, l4, l5, l6, l7, l8, l9, l10, l11, l12, l13, .val (.int z), l15, l16, l17] ((.int v) :: st) H Q = M25 287 [l0, l1, l2, l3, l4, l5, l6, l7, l8, l9, l10, l11, l12, l13, .val (.int v), l15, l16, l17] st H Q := w_st (i := 14) (p := isI) at_285 rfl rfl rfl rfl rfl rfl
theorem m25_285r : M25 285 [l0, l1, l2, l3, l4, l5, l6, l7, l8, l9, l10, l11, l12, l13, .val (.ref q), l15, l16, l17] ((.int v) :: st) H Q = M25 287 [l0, l1, l2, l3, l4, l5, l6, l7, l8, l9, l10, l11, l12, l13, .val (.int v), l15, l16, l17] st H Q := w_st (i := 14) (p := isI) at_285 rfl rfl rfl rfl rfl rfl
theorem m25_285g (h : okS l14) : M25 285 [l0, l1, l2, l3, l4, l5, l6, l7, l8, l9, l10, l11, l12, l13, l14, l15, l16, l17] ((.int v) :: st) H Q = M25 287 [l0, l1, l2, l3, l4, l5, l6, l7, l8, l9, l10, l11, l12, l13, .val (.int v), l15, l16, l17] st H Q := by rcases h with rfl | ⟨z, rfl⟩ <;> first | exact m25_285u | exact m25_285i
theorem m25_287 : M25 287 [l0, l1, .val (.ref r), l3, l4, l5, l6, l7, l8, l9, l10, l11, l12, l13, l14, l15, l16, l17] st H Q = M25 288 [l0, l1, .val (.ref r), l3, l4, l5, l6, l7, l8, l9, l10, l11, l12, l13, l14, l15, l16, l17] (.ref r :: st) H Q := w_x at_287 rfl
theorem m25_288 : M25 288 [l0, l1, l2, l3, l4, l5, l6, .val (.int v), l8, l9, l10, l11, l12, l13, l14, l15, l16, l17] st H Q = M25 290 [l0, l1, l2, l3, l4, l5, l6, .val (.int v), l8, l9, l10, l11, l12, l13, l14, l15, l16, l17] (.int v :: st) H Q := w_x at_288 rfl
theorem m25_290 : M25 290 ls st H Q = M25 291 ls (.int 0 :: st) H Q := w_con at_290 rfl (by decide)
theorem m25_291 : M25 291 [l0, l1, l2, l3, l4, l5, l6, l7, l8, l9, l10, .val (.int v), l12, l13, l14, l15, l16, l17] st H Q = M25 293 [l0, l1, l2, l3, l4, l5, l6, l7, l8, l9, l10, .val (.int v), l12, l13, l14, l15, l16, l17] (.int v :: st) H Q := w_x at_291 rfl
theorem m25_293 (a0 : Nat) (a1 : Int32) (a2 : Int32) (a3 : Int32) : M25 293 ls [.int a3, .int a2, .int a1, .ref a0] H Q = M24 0 [.val (.ref a0), .val (.int a1), .val (.int a2), .val (.int a3), .unset, .unset] [] H (fun v H1 => M25 296 ls (v.toList ++ []) H1 Q) := w_stat (as := [.int a3, .int a2, .int a1, .ref a0]) (rest := []) at_293 cr25_41 rfl (Nat.le_of_ble_eq_true rfl) (by show 4 ≤ 6; omega) rfl
theorem m25_296 : M25 296 ls (.int x :: st) H Q = if x = 0 then M25 299 ls st H Q else M25 301 ls st H Q := w_ifN at_296 (z_ne x) rfl
theorem m25_299 : M25 299 ls st H Q = M25 300 ls (.int 0 :: st) H Q := w_con at_299 rfl (by decide)
theorem m25_300 : M25 300 ls (.int z :: st) H Q = Q (some (.int (nar .boolean z))) H := w_iretN at_300 rfl (by simp)
theorem m25_301 : M25 301 [l0, l1, .val (.ref r), l3, l4, l5, l6, l7, l8, l9, l10, l11, l12, l13, l14, l15, l16, l17] st H Q = M25 302 [l0, l1, .val (.ref r), l3, l4, l5, l6, l7, l8, l9, l10, l11, l12, l13, l14, l15, l16, l17] (.ref r :: st) H Q := w_x at_301 rfl
theorem m25_302 : M25 302 ls [.ref (b + 1)] (put (b + 1) pre s A post) Q = M18 0 [.val (.ref (b + 1)), .unset, .unset] [] (put (b + 1) pre s A post) (fun v H1 => M25 305 ls (v.toList ++ []) H1 Q) := w_virt (as := []) (rest := []) (a := (b + 1)) at_302 cr25_47 put_o rfl rfl (Nat.le_of_ble_eq_true rfl) (by show 1 ≤ 3; omega) rfl
theorem m25_305u : M25 305 [l0, l1, l2, l3, l4, l5, l6, l7, l8, l9, l10, l11, l12, l13, l14, .unset, l16, l17] ((.int v) :: st) H Q = M25 307 [l0, l1, l2, l3, l4, l5, l6, l7, l8, l9, l10, l11, l12, l13, l14, .val (.int v), l16, l17] st H Q := w_st (i := 15) (p := isI) at_305 rfl rfl rfl rfl rfl rfl
theorem m25_305i : M25 305 [l0, l1, l2, l3, l4, l5, l6, l7, l8, l9, l10, l11, l12, l13, l14, .val (.int z), l16, l17] ((.int v) :: st) H Q = M25 307 [l0, l1, l2, l3, l4, l5, l6, l7, l8, l9, l10, l11, l12, l13, l14, .val (.int v), l16, l17] st H Q := w_st (i := 15) (p := isI) at_305 rfl rfl rfl rfl rfl rfl
theorem m25_305r : M25 305 [l0, l1, l2, l3, l4, l5, l6, l7, l8, l9, l10, l11, l12, l13, l14, .val (.ref q), l16, l17] ((.int v) :: st) H Q = M25 307 [l0, l1, l2, l3, l4, l5, l6, l7, l8, l9, l10, l11, l12, l13, l14, .val (.int v), l16, l17] st H Q := w_st (i := 15) (p := isI) at_305 rfl rfl rfl rfl rfl rfl
theorem m25_305g (h : okS l15) : M25 305 [l0, l1, l2, l3, l4, l5, l6, l7, l8, l9, l10, l11, l12, l13, l14, l15, l16, l17] ((.int v) :: st) H Q = M25 307 [l0, l1, l2, l3, l4, l5, l6, l7, l8, l9, l10, l11, l12, l13, l14, .val (.int v), l16, l17] st H Q := by rcases h with rfl | ⟨z, rfl⟩ <;> first | exact m25_305u | exact m25_305i
theorem m25_307 : M25 307 ls st H Q = M25 308 ls (.int 0 :: st) H Q := w_con at_307 rfl (by decide)
theorem m25_308u : M25 308 [l0, l1, l2, l3, l4, l5, l6, l7, l8, l9, l10, l11, l12, l13, l14, l15, .unset, l17] ((.int v) :: st) H Q = M25 310 [l0, l1, l2, l3, l4, l5, l6, l7, l8, l9, l10, l11, l12, l13, l14, l15, .val (.int v), l17] st H Q := w_st (i := 16) (p := isI) at_308 rfl rfl rfl rfl rfl rfl
theorem m25_308i : M25 308 [l0, l1, l2, l3, l4, l5, l6, l7, l8, l9, l10, l11, l12, l13, l14, l15, .val (.int z), l17] ((.int v) :: st) H Q = M25 310 [l0, l1, l2, l3, l4, l5, l6, l7, l8, l9, l10, l11, l12, l13, l14, l15, .val (.int v), l17] st H Q := w_st (i := 16) (p := isI) at_308 rfl rfl rfl rfl rfl rfl
theorem m25_308r : M25 308 [l0, l1, l2, l3, l4, l5, l6, l7, l8, l9, l10, l11, l12, l13, l14, l15, .val (.ref q), l17] ((.int v) :: st) H Q = M25 310 [l0, l1, l2, l3, l4, l5, l6, l7, l8, l9, l10, l11, l12, l13, l14, l15, .val (.int v), l17] st H Q := w_st (i := 16) (p := isI) at_308 rfl rfl rfl rfl rfl rfl
theorem m25_308g (h : okS l16) : M25 308 [l0, l1, l2, l3, l4, l5, l6, l7, l8, l9, l10, l11, l12, l13, l14, l15, l16, l17] ((.int v) :: st) H Q = M25 310 [l0, l1, l2, l3, l4, l5, l6, l7, l8, l9, l10, l11, l12, l13, l14, l15, .val (.int v), l17] st H Q := by rcases h with rfl | ⟨z, rfl⟩ <;> first | exact m25_308u | exact m25_308i
theorem m25_310 : M25 310 [l0, l1, l2, l3, l4, l5, l6, l7, l8, l9, l10, .val (.int v), l12, l13, l14, l15, l16, l17] st H Q = M25 312 [l0, l1, l2, l3, l4, l5, l6, l7, l8, l9, l10, .val (.int v), l12, l13, l14, l15, l16, l17] (.int v :: st) H Q := w_x at_310 rfl
theorem m25_312 : M25 312 [l0, l1, l2, l3, l4, l5, l6, l7, l8, l9, .val (.int v), l11, l12, l13, l14, l15, l16, l17] st H Q = M25 314 [l0, l1, l2, l3, l4, l5, l6, l7, l8, l9, .val (.int v), l11, l12, l13, l14, l15, l16, l17] (.int v :: st) H Q := w_x at_312 rfl
theorem m25_314 : M25 314 ls (.int y :: .int x :: st) H Q = if x < y then M25 317 ls st H Q else M25 356 ls st H Q := w_icmpN at_314 (i_ge x y) rfl
theorem m25_317 : M25 317 [l0, l1, .val (.ref r), l3, l4, l5, l6, l7, l8, l9, l10, l11, l12, l13, l14, l15, l16, l17] st H Q = M25 318 [l0, l1, .val (.ref r), l3, l4, l5, l6, l7, l8, l9, l10, l11, l12, l13, l14, l15, l16, l17] (.ref r :: st) H Q := w_x at_317 rfl
theorem m25_318 : M25 318 [l0, l1, l2, l3, l4, l5, l6, l7, l8, .val (.int v), l10, l11, l12, l13, l14, l15, l16, l17] st H Q = M25 320 [l0, l1, l2, l3, l4, l5, l6, l7, l8, .val (.int v), l10, l11, l12, l13, l14, l15, l16, l17] (.int v :: st) H Q := w_x at_318 rfl
theorem m25_320 : M25 320 [l0, l1, l2, l3, l4, l5, l6, l7, l8, l9, l10, .val (.int v), l12, l13, l14, l15, l16, l17] st H Q = M25 322 [l0, l1, l2, l3, l4, l5, l6, l7, l8, l9, l10, .val (.int v), l12, l13, l14, l15, l16, l17] (.int v :: st) H Q := w_x at_320 rfl
theorem m25_322 : M25 322 ls (.int y :: .int x :: st) H Q = M25 323 ls (.int (x + y) :: st) H Q := w_x at_322 rfl
theorem m25_323 (a0 : Int32) : M25 323 ls [.int a0, .ref (b + 1)] (put (b + 1) pre s A post) Q = M2 0 [.val (.ref (b + 1)), .val (.int a0)] [] (put (b + 1) pre s A post) (fun v H1 => M25 326 ls (v.toList ++ []) H1 Q) := w_virt (as := [.int a0]) (rest := []) (a := (b + 1)) at_323 cr25_38 put_o rfl rfl (Nat.le_of_ble_eq_true rfl) (by show 2 ≤ 2; omega) rfl
theorem m25_326u : M25 326 [l0, l1, l2, l3, l4, l5, l6, l7, l8, l9, l10, l11, l12, l13, l14, l15, l16, .unset] ((.int v) :: st) H Q = M25 328 [l0, l1, l2, l3, l4, l5, l6, l7, l8, l9, l10, l11, l12, l13, l14, l15, l16, .val (.int v)] st H Q := w_st (i := 17) (p := isI) at_326 rfl rfl rfl rfl rfl rfl
theorem m25_326i : M25 326 [l0, l1, l2, l3, l4, l5, l6, l7, l8, l9, l10, l11, l12, l13, l14, l15, l16, .val (.int z)] ((.int v) :: st) H Q = M25 328 [l0, l1, l2, l3, l4, l5, l6, l7, l8, l9, l10, l11, l12, l13, l14, l15, l16, .val (.int v)] st H Q := w_st (i := 17) (p := isI) at_326 rfl rfl rfl rfl rfl rfl
theorem m25_326r : M25 326 [l0, l1, l2, l3, l4, l5, l6, l7, l8, l9, l10, l11, l12, l13, l14, l15, l16, .val (.ref q)] ((.int v) :: st) H Q = M25 328 [l0, l1, l2, l3, l4, l5, l6, l7, l8, l9, l10, l11, l12, l13, l14, l15, l16, .val (.int v)] st H Q := w_st (i := 17) (p := isI) at_326 rfl rfl rfl rfl rfl rfl
theorem m25_326g (h : okS l17) : M25 326 [l0, l1, l2, l3, l4, l5, l6, l7, l8, l9, l10, l11, l12, l13, l14, l15, l16, l17] ((.int v) :: st) H Q = M25 328 [l0, l1, l2, l3, l4, l5, l6, l7, l8, l9, l10, l11, l12, l13, l14, l15, l16, .val (.int v)] st H Q := by rcases h with rfl | ⟨z, rfl⟩ <;> first | exact m25_326u | exact m25_326i
theorem m25_328 : M25 328 [l0, l1, l2, l3, l4, l5, l6, l7, l8, l9, l10, l11, l12, l13, l14, l15, l16, .val (.int v)] st H Q = M25 330 [l0, l1, l2, l3, l4, l5, l6, l7, l8, l9, l10, l11, l12, l13, l14, l15, l16, .val (.int v)] (.int v :: st) H Q := w_x at_328 rfl
theorem m25_330 : M25 330 ls (.int x :: st) H Q = if x = 0 then M25 335 ls st H Q else M25 333 ls st H Q := w_if at_330 (z_eq x) rfl
theorem m25_333 : M25 333 ls st H Q = M25 334 ls (.int 0 :: st) H Q := w_con at_333 rfl (by decide)
theorem m25_334 : M25 334 ls (.int z :: st) H Q = Q (some (.int (nar .boolean z))) H := w_iretN at_334 rfl (by simp)
theorem m25_335 : M25 335 [l0, l1, .val (.ref r), l3, l4, l5, l6, l7, l8, l9, l10, l11, l12, l13, l14, l15, l16, l17] st H Q = M25 336 [l0, l1, .val (.ref r), l3, l4, l5, l6, l7, l8, l9, l10, l11, l12, l13, l14, l15, l16, l17] (.ref r :: st) H Q := w_x at_335 rfl
theorem m25_336 : M25 336 [l0, l1, l2, l3, l4, l5, l6, .val (.int v), l8, l9, l10, l11, l12, l13, l14, l15, l16, l17] st H Q = M25 338 [l0, l1, l2, l3, l4, l5, l6, .val (.int v), l8, l9, l10, l11, l12, l13, l14, l15, l16, l17] (.int v :: st) H Q := w_x at_336 rfl
theorem m25_338 : M25 338 [l0, l1, l2, l3, l4, l5, l6, l7, l8, l9, l10, .val (.int v), l12, l13, l14, l15, l16, l17] st H Q = M25 340 [l0, l1, l2, l3, l4, l5, l6, l7, l8, l9, l10, .val (.int v), l12, l13, l14, l15, l16, l17] (.int v :: st) H Q := w_x at_338 rfl
theorem m25_340 : M25 340 [l0, l1, l2, l3, l4, l5, l6, l7, l8, l9, .val (.int v), l11, l12, l13, l14, l15, l16, l17] st H Q = M25 342 [l0, l1, l2, l3, l4, l5, l6, l7, l8, l9, .val (.int v), l11, l12, l13, l14, l15, l16, l17] (.int v :: st) H Q := w_x at_340 rfl
theorem m25_342 (a0 : Nat) (a1 : Int32) (a2 : Int32) (a3 : Int32) : M25 342 ls [.int a3, .int a2, .int a1, .ref a0] H Q = M24 0 [.val (.ref a0), .val (.int a1), .val (.int a2), .val (.int a3), .unset, .unset] [] H (fun v H1 => M25 345 ls (v.toList ++ []) H1 Q) := w_stat (as := [.int a3, .int a2, .int a1, .ref a0]) (rest := []) at_342 cr25_41 rfl (Nat.le_of_ble_eq_true rfl) (by show 4 ≤ 6; omega) rfl
theorem m25_345 : M25 345 ls (.int x :: st) H Q = if x = 0 then M25 348 ls st H Q else M25 350 ls st H Q := w_ifN at_345 (z_ne x) rfl
theorem m25_348 : M25 348 ls st H Q = M25 349 ls (.int 0 :: st) H Q := w_con at_348 rfl (by decide)
theorem m25_349 : M25 349 ls (.int z :: st) H Q = Q (some (.int (nar .boolean z))) H := w_iretN at_349 rfl (by simp)
theorem m25_350 : M25 350 [l0, l1, .val (.ref r), l3, l4, l5, l6, l7, l8, l9, l10, l11, l12, l13, l14, l15, l16, l17] st H Q = M25 351 [l0, l1, .val (.ref r), l3, l4, l5, l6, l7, l8, l9, l10, l11, l12, l13, l14, l15, l16, l17] (.ref r :: st) H Q := w_x at_350 rfl
theorem m25_351 : M25 351 ls [.ref (b + 1)] (put (b + 1) pre s A post) Q = M18 0 [.val (.ref (b + 1)), .unset, .unset] [] (put (b + 1) pre s A post) (fun v H1 => M25 354 ls (v.toList ++ []) H1 Q) := w_virt (as := []) (rest := []) (a := (b + 1)) at_351 cr25_47 put_o rfl rfl (Nat.le_of_ble_eq_true rfl) (by show 1 ≤ 3; omega) rfl
theorem m25_354i : M25 354 [l0, l1, l2, l3, l4, l5, l6, l7, l8, l9, l10, l11, l12, l13, l14, l15, .val (.int z), l17] ((.int v) :: st) H Q = M25 356 [l0, l1, l2, l3, l4, l5, l6, l7, l8, l9, l10, l11, l12, l13, l14, l15, .val (.int v), l17] st H Q := w_st (i := 16) (p := isI) at_354 rfl rfl rfl rfl rfl rfl
theorem m25_356 : M25 356 [l0, l1, l2, l3, l4, l5, l6, l7, l8, l9, l10, l11, l12, l13, .val (.int v), l15, l16, l17] st H Q = M25 358 [l0, l1, l2, l3, l4, l5, l6, l7, l8, l9, l10, l11, l12, l13, .val (.int v), l15, l16, l17] (.int v :: st) H Q := w_x at_356 rfl
theorem m25_358 : M25 358 ls (.int x :: st) H Q = if x < 0 then M25 381 ls st H Q else M25 361 ls st H Q := w_if at_358 (z_lt x) rfl
theorem m25_361 : M25 361 [l0, l1, l2, l3, l4, l5, l6, l7, l8, l9, l10, l11, l12, l13, l14, .val (.int v), l16, l17] st H Q = M25 363 [l0, l1, l2, l3, l4, l5, l6, l7, l8, l9, l10, l11, l12, l13, l14, .val (.int v), l16, l17] (.int v :: st) H Q := w_x at_361 rfl
theorem m25_363 : M25 363 ls (.int x :: st) H Q = if x < 0 then M25 381 ls st H Q else M25 366 ls st H Q := w_if at_363 (z_lt x) rfl
theorem m25_366 : M25 366 [l0, l1, l2, l3, l4, l5, l6, l7, l8, l9, l10, l11, l12, l13, l14, l15, .val (.int v), l17] st H Q = M25 368 [l0, l1, l2, l3, l4, l5, l6, l7, l8, l9, l10, l11, l12, l13, l14, l15, .val (.int v), l17] (.int v :: st) H Q := w_x at_366 rfl
theorem m25_368 : M25 368 ls (.int x :: st) H Q = if x < 0 then M25 381 ls st H Q else M25 371 ls st H Q := w_if at_368 (z_lt x) rfl
theorem m25_371 : M25 371 [l0, l1, l2, l3, l4, l5, l6, l7, l8, l9, l10, l11, l12, l13, .val (.int v), l15, l16, l17] st H Q = M25 373 [l0, l1, l2, l3, l4, l5, l6, l7, l8, l9, l10, l11, l12, l13, .val (.int v), l15, l16, l17] (.int v :: st) H Q := w_x at_371 rfl
theorem m25_373 : M25 373 [l0, l1, l2, l3, l4, l5, l6, l7, l8, l9, l10, l11, l12, l13, l14, .val (.int v), l16, l17] st H Q = M25 375 [l0, l1, l2, l3, l4, l5, l6, l7, l8, l9, l10, l11, l12, l13, l14, .val (.int v), l16, l17] (.int v :: st) H Q := w_x at_373 rfl
theorem m25_375 : M25 375 [l0, l1, l2, l3, l4, l5, l6, l7, l8, l9, l10, l11, l12, l13, l14, l15, .val (.int v), l17] st H Q = M25 377 [l0, l1, l2, l3, l4, l5, l6, l7, l8, l9, l10, l11, l12, l13, l14, l15, .val (.int v), l17] (.int v :: st) H Q := w_x at_375 rfl
theorem m25_377 : M25 377 ls (.int y :: .int x :: st) H Q = M25 378 ls (.int (x + y) :: st) H Q := w_x at_377 rfl
theorem m25_378 : M25 378 ls (.int y :: .int x :: st) H Q = if x = y then M25 383 ls st H Q else M25 381 ls st H Q := w_icmp at_378 (i_eq x y) rfl
theorem m25_381 : M25 381 ls st H Q = M25 382 ls (.int 0 :: st) H Q := w_con at_381 rfl (by decide)
theorem m25_382 : M25 382 ls (.int z :: st) H Q = Q (some (.int (nar .boolean z))) H := w_iretN at_382 rfl (by simp)
theorem m25_383 : M25 383 [l0, .val (.ref r), l2, l3, l4, l5, l6, l7, l8, l9, l10, l11, l12, l13, l14, l15, l16, l17] st H Q = M25 384 [l0, .val (.ref r), l2, l3, l4, l5, l6, l7, l8, l9, l10, l11, l12, l13, l14, l15, l16, l17] (.ref r :: st) H Q := w_x at_383 rfl
theorem m25_384 : M25 384 [l0, l1, .val (.ref r), l3, l4, l5, l6, l7, l8, l9, l10, l11, l12, l13, l14, l15, l16, l17] st H Q = M25 385 [l0, l1, .val (.ref r), l3, l4, l5, l6, l7, l8, l9, l10, l11, l12, l13, l14, l15, l16, l17] (.ref r :: st) H Q := w_x at_384 rfl
theorem cr25_50 : sR tables_1 dn y25 50 = some (y23, method_2_code, 3, (some .boolean), 2, 19) := sR_of (cR_of (by decide +kernel) rc_23 dn_23 dn_25 (sig := ⟨[.object "StreamSigScanner", .object "StreamSigScanner"], some .boolean⟩) (by decide +kernel) (by decide +kernel) rfl rfl) (by decide +kernel)
theorem m25_385 (a0 : Nat) (a1 : Nat) : M25 385 ls [.ref a1, .ref a0] H Q = M23 0 [.val (.ref a0), .val (.ref a1), .unset] [] H (fun v H1 => M25 388 ls (v.toList ++ []) H1 Q) := w_stat (as := [.ref a1, .ref a0]) (rest := []) at_385 cr25_50 rfl (Nat.le_of_ble_eq_true rfl) (by show 2 ≤ 3; omega) rfl
theorem m25_388 : M25 388 ls (.int x :: st) H Q = if x = 0 then M25 391 ls st H Q else M25 393 ls st H Q := w_ifN at_388 (z_ne x) rfl
theorem m25_391 : M25 391 ls st H Q = M25 392 ls (.int 0 :: st) H Q := w_con at_391 rfl (by decide)
theorem m25_392 : M25 392 ls (.int z :: st) H Q = Q (some (.int (nar .boolean z))) H := w_iretN at_392 rfl (by simp)
theorem m25_393 : M25 393 [l0, l1, l2, .val (.int v), l4, l5, l6, l7, l8, l9, l10, l11, l12, l13, l14, l15, l16, l17] st H Q = M25 396 [l0, l1, l2, .val (.int (v + 4)), l4, l5, l6, l7, l8, l9, l10, l11, l12, l13, l14, l15, l16, l17] st H Q := w_iinc at_393 rfl (by decide) rfl
theorem m25_396 : M25 396 ls st H Q = M25 22 ls st H Q := w_x at_396 rfl
theorem m25_399 : M25 399 ls st H Q = M25 400 ls (.int 1 :: st) H Q := w_con at_399 rfl (by decide)
theorem m25_400 : M25 400 ls (.int z :: st) H Q = Q (some (.int (nar .boolean z))) H := w_iretN at_400 rfl (by simp)
theorem pf0_7 : pfR tables_1 y0.cls y0.name 7 = some ("StreamSigScanner", 0, .array .int) := by decide +kernel
theorem m0_4a (hH : H.length = b) (hk : 1 ≤ b) {vs : List Value} {r : AHeap} (hj : 0 < vs.length) : M0 4 (.val (.ref b) :: [l1, l2]) [] (H ++ (.object "StreamSigScanner", vs) :: r) Q = M0 12 (.val (.ref b) :: [l1, l2]) [] (H ++ (.object "StreamSigScanner", vs.set 0 (.ref (b + (r.length + 1)))) :: (r ++ [(.array .int, List.replicate 64 (.int 0))])) Q := w_iarr (n := 64) rfl hH hk (show decode kb0 4 = .ok (.aload_n 0, 1) from by decide +kernel) rfl (show decode kb0 5 = .ok (.bipush 64, 2) from by decide +kernel) (fun _ => rfl) (by decide) (show decode kb0 7 = .ok (.newarray .int, 2) from by decide +kernel) rfl (by decide +kernel) (by decide) (by decide) rfl (show decode kb0 9 = .ok (.putfield 7, 3) from by decide +kernel) pf0_7 hj
theorem pf0_13 : pfR tables_1 y0.cls y0.name 13 = some ("StreamSigScanner", 1, .array .int) := by decide +kernel
theorem m0_12a (hH : H.length = b) (hk : 1 ≤ b) {vs : List Value} {r : AHeap} (hj : 1 < vs.length) : M0 12 (.val (.ref b) :: [l1, l2]) [] (H ++ (.object "StreamSigScanner", vs) :: r) Q = M0 20 (.val (.ref b) :: [l1, l2]) [] (H ++ (.object "StreamSigScanner", vs.set 1 (.ref (b + (r.length + 1)))) :: (r ++ [(.array .int, List.replicate 16 (.int 0))])) Q := w_iarr (n := 16) rfl hH hk (show decode kb0 12 = .ok (.aload_n 0, 1) from by decide +kernel) rfl (show decode kb0 13 = .ok (.bipush 16, 2) from by decide +kernel) (fun _ => rfl) (by decide) (show decode kb0 15 = .ok (.newarray .int, 2) from by decide +kernel) rfl (by decide +kernel) (by decide) (by decide) rfl (show decode kb0 17 = .ok (.putfield 13, 3) from by decide +kernel) pf0_13 hj
theorem pf0_16 : pfR tables_1 y0.cls y0.name 16 = some ("StreamSigScanner", 2, .array .int) := by decide +kernel
theorem m0_20a (hH : H.length = b) (hk : 1 ≤ b) {vs : List Value} {r : AHeap} (hj : 2 < vs.length) : M0 20 (.val (.ref b) :: [l1, l2]) [] (H ++ (.object "StreamSigScanner", vs) :: r) Q = M0 28 (.val (.ref b) :: [l1, l2]) [] (H ++ (.object "StreamSigScanner", vs.set 2 (.ref (b + (r.length + 1)))) :: (r ++ [(.array .int, List.replicate 16 (.int 0))])) Q := w_iarr (n := 16) rfl hH hk (show decode kb0 20 = .ok (.aload_n 0, 1) from by decide +kernel) rfl (show decode kb0 21 = .ok (.bipush 16, 2) from by decide +kernel) (fun _ => rfl) (by decide) (show decode kb0 23 = .ok (.newarray .int, 2) from by decide +kernel) rfl (by decide +kernel) (by decide) (by decide) rfl (show decode kb0 25 = .ok (.putfield 16, 3) from by decide +kernel) pf0_16 hj
theorem pf0_19 : pfR tables_1 y0.cls y0.name 19 = some ("StreamSigScanner", 3, .array .int) := by decide +kernel
theorem m0_28a (hH : H.length = b) (hk : 1 ≤ b) {vs : List Value} {r : AHeap} (hj : 3 < vs.length) : M0 28 (.val (.ref b) :: [l1, l2]) [] (H ++ (.object "StreamSigScanner", vs) :: r) Q = M0 37 (.val (.ref b) :: [l1, l2]) [] (H ++ (.object "StreamSigScanner", vs.set 3 (.ref (b + (r.length + 1)))) :: (r ++ [(.array .int, List.replicate 16640 (.int 0))])) Q := w_iarr (n := 16640) rfl hH hk (show decode kb0 28 = .ok (.aload_n 0, 1) from by decide +kernel) rfl (show decode kb0 29 = .ok (.sipush 16640, 3) from by decide +kernel) (fun _ => rfl) (by decide) (show decode kb0 32 = .ok (.newarray .int, 2) from by decide +kernel) rfl (by decide +kernel) (by decide) (by decide) rfl (show decode kb0 34 = .ok (.putfield 19, 3) from by decide +kernel) pf0_19 hj
theorem pf0_22 : pfR tables_1 y0.cls y0.name 22 = some ("StreamSigScanner", 4, .array .int) := by decide +kernel
theorem m0_37a (hH : H.length = b) (hk : 1 ≤ b) {vs : List Value} {r : AHeap} (hj : 4 < vs.length) : M0 37 (.val (.ref b) :: [l1, l2]) [] (H ++ (.object "StreamSigScanner", vs) :: r) Q = M0 45 (.val (.ref b) :: [l1, l2]) [] (H ++ (.object "StreamSigScanner", vs.set 4 (.ref (b + (r.length + 1)))) :: (r ++ [(.array .int, List.replicate 65 (.int 0))])) Q := w_iarr (n := 65) rfl hH hk (show decode kb0 37 = .ok (.aload_n 0, 1) from by decide +kernel) rfl (show decode kb0 38 = .ok (.bipush 65, 2) from by decide +kernel) (fun _ => rfl) (by decide) (show decode kb0 40 = .ok (.newarray .int, 2) from by decide +kernel) rfl (by decide +kernel) (by decide) (by decide) rfl (show decode kb0 42 = .ok (.putfield 22, 3) from by decide +kernel) pf0_22 hj
theorem pf0_25 : pfR tables_1 y0.cls y0.name 25 = some ("StreamSigScanner", 5, .array .int) := by decide +kernel
theorem m0_45a (hH : H.length = b) (hk : 1 ≤ b) {vs : List Value} {r : AHeap} (hj : 5 < vs.length) : M0 45 (.val (.ref b) :: [l1, l2]) [] (H ++ (.object "StreamSigScanner", vs) :: r) Q = M0 53 (.val (.ref b) :: [l1, l2]) [] (H ++ (.object "StreamSigScanner", vs.set 5 (.ref (b + (r.length + 1)))) :: (r ++ [(.array .int, List.replicate 65 (.int 0))])) Q := w_iarr (n := 65) rfl hH hk (show decode kb0 45 = .ok (.aload_n 0, 1) from by decide +kernel) rfl (show decode kb0 46 = .ok (.bipush 65, 2) from by decide +kernel) (fun _ => rfl) (by decide) (show decode kb0 48 = .ok (.newarray .int, 2) from by decide +kernel) rfl (by decide +kernel) (by decide) (by decide) rfl (show decode kb0 50 = .ok (.putfield 25, 3) from by decide +kernel) pf0_25 hj
theorem pf0_28 : pfR tables_1 y0.cls y0.name 28 = some ("StreamSigScanner", 6, .array .int) := by decide +kernel
theorem m0_53a (hH : H.length = b) (hk : 1 ≤ b) {vs : List Value} {r : AHeap} (hj : 6 < vs.length) : M0 53 (.val (.ref b) :: [l1, l2]) [] (H ++ (.object "StreamSigScanner", vs) :: r) Q = M0 61 (.val (.ref b) :: [l1, l2]) [] (H ++ (.object "StreamSigScanner", vs.set 6 (.ref (b + (r.length + 1)))) :: (r ++ [(.array .int, List.replicate 65 (.int 0))])) Q := w_iarr (n := 65) rfl hH hk (show decode kb0 53 = .ok (.aload_n 0, 1) from by decide +kernel) rfl (show decode kb0 54 = .ok (.bipush 65, 2) from by decide +kernel) (fun _ => rfl) (by decide) (show decode kb0 56 = .ok (.newarray .int, 2) from by decide +kernel) rfl (by decide +kernel) (by decide) (by decide) rfl (show decode kb0 58 = .ok (.putfield 28, 3) from by decide +kernel) pf0_28 hj
theorem pf0_31 : pfR tables_1 y0.cls y0.name 31 = some ("StreamSigScanner", 7, .array .boolean) := by decide +kernel
theorem m0_61a (hH : H.length = b) (hk : 1 ≤ b) {vs : List Value} {r : AHeap} (hj : 7 < vs.length) : M0 61 (.val (.ref b) :: [l1, l2]) [] (H ++ (.object "StreamSigScanner", vs) :: r) Q = M0 70 (.val (.ref b) :: [l1, l2]) [] (H ++ (.object "StreamSigScanner", vs.set 7 (.ref (b + (r.length + 1)))) :: (r ++ [(.array .boolean, List.replicate 256 (.int 0))])) Q := w_iarr (n := 256) rfl hH hk (show decode kb0 61 = .ok (.aload_n 0, 1) from by decide +kernel) rfl (show decode kb0 62 = .ok (.sipush 256, 3) from by decide +kernel) (fun _ => rfl) (by decide) (show decode kb0 65 = .ok (.newarray .boolean, 2) from by decide +kernel) rfl (by decide +kernel) (by decide) (by decide) rfl (show decode kb0 67 = .ok (.putfield 31, 3) from by decide +kernel) pf0_31 hj
theorem pf0_35 : pfR tables_1 y0.cls y0.name 35 = some ("StreamSigScanner", 8, .array .int) := by decide +kernel
theorem m0_70a (hH : H.length = b) (hk : 1 ≤ b) {vs : List Value} {r : AHeap} (hj : 8 < vs.length) : M0 70 (.val (.ref b) :: [l1, l2]) [] (H ++ (.object "StreamSigScanner", vs) :: r) Q = M0 79 (.val (.ref b) :: [l1, l2]) [] (H ++ (.object "StreamSigScanner", vs.set 8 (.ref (b + (r.length + 1)))) :: (r ++ [(.array .int, List.replicate 256 (.int 0))])) Q := w_iarr (n := 256) rfl hH hk (show decode kb0 70 = .ok (.aload_n 0, 1) from by decide +kernel) rfl (show decode kb0 71 = .ok (.sipush 256, 3) from by decide +kernel) (fun _ => rfl) (by decide) (show decode kb0 74 = .ok (.newarray .int, 2) from by decide +kernel) rfl (by decide +kernel) (by decide) (by decide) rfl (show decode kb0 76 = .ok (.putfield 35, 3) from by decide +kernel) pf0_35 hj
theorem pf0_38 : pfR tables_1 y0.cls y0.name 38 = some ("StreamSigScanner", 9, .array .int) := by decide +kernel
theorem m0_79a (hH : H.length = b) (hk : 1 ≤ b) {vs : List Value} {r : AHeap} (hj : 9 < vs.length) : M0 79 (.val (.ref b) :: [l1, l2]) [] (H ++ (.object "StreamSigScanner", vs) :: r) Q = M0 87 (.val (.ref b) :: [l1, l2]) [] (H ++ (.object "StreamSigScanner", vs.set 9 (.ref (b + (r.length + 1)))) :: (r ++ [(.array .int, List.replicate 16 (.int 0))])) Q := w_iarr (n := 16) rfl hH hk (show decode kb0 79 = .ok (.aload_n 0, 1) from by decide +kernel) rfl (show decode kb0 80 = .ok (.bipush 16, 2) from by decide +kernel) (fun _ => rfl) (by decide) (show decode kb0 82 = .ok (.newarray .int, 2) from by decide +kernel) rfl (by decide +kernel) (by decide) (by decide) rfl (show decode kb0 84 = .ok (.putfield 38, 3) from by decide +kernel) pf0_38 hj
theorem pf0_41 : pfR tables_1 y0.cls y0.name 41 = some ("StreamSigScanner", 10, .array .int) := by decide +kernel
theorem m0_87a (hH : H.length = b) (hk : 1 ≤ b) {vs : List Value} {r : AHeap} (hj : 10 < vs.length) : M0 87 (.val (.ref b) :: [l1, l2]) [] (H ++ (.object "StreamSigScanner", vs) :: r) Q = M0 95 (.val (.ref b) :: [l1, l2]) [] (H ++ (.object "StreamSigScanner", vs.set 10 (.ref (b + (r.length + 1)))) :: (r ++ [(.array .int, List.replicate 64 (.int 0))])) Q := w_iarr (n := 64) rfl hH hk (show decode kb0 87 = .ok (.aload_n 0, 1) from by decide +kernel) rfl (show decode kb0 88 = .ok (.bipush 64, 2) from by decide +kernel) (fun _ => rfl) (by decide) (show decode kb0 90 = .ok (.newarray .int, 2) from by decide +kernel) rfl (by decide +kernel) (by decide) (by decide) rfl (show decode kb0 92 = .ok (.putfield 41, 3) from by decide +kernel) pf0_41 hj
theorem pf0_44 : pfR tables_1 y0.cls y0.name 44 = some ("StreamSigScanner", 11, .array .int) := by decide +kernel
theorem m0_95a (hH : H.length = b) (hk : 1 ≤ b) {vs : List Value} {r : AHeap} (hj : 11 < vs.length) : M0 95 (.val (.ref b) :: [l1, l2]) [] (H ++ (.object "StreamSigScanner", vs) :: r) Q = M0 103 (.val (.ref b) :: [l1, l2]) [] (H ++ (.object "StreamSigScanner", vs.set 11 (.ref (b + (r.length + 1)))) :: (r ++ [(.array .int, List.replicate 64 (.int 0))])) Q := w_iarr (n := 64) rfl hH hk (show decode kb0 95 = .ok (.aload_n 0, 1) from by decide +kernel) rfl (show decode kb0 96 = .ok (.bipush 64, 2) from by decide +kernel) (fun _ => rfl) (by decide) (show decode kb0 98 = .ok (.newarray .int, 2) from by decide +kernel) rfl (by decide +kernel) (by decide) (by decide) rfl (show decode kb0 100 = .ok (.putfield 44, 3) from by decide +kernel) pf0_44 hj
def A0 : Nat → List Int32
  | 0 => List.replicate 64 0
  | 1 => List.replicate 16 0
  | 2 => List.replicate 16 0
  | 3 => List.replicate 16640 0
  | 4 => List.replicate 65 0
  | 5 => List.replicate 65 0
  | 6 => List.replicate 65 0
  | 7 => List.replicate 256 0
  | 8 => List.replicate 256 0
  | 9 => List.replicate 16 0
  | 10 => List.replicate 64 0
  | 11 => List.replicate 64 0
  | _ => []
theorem A0l_0 : (A0 0).length = 64 := List.length_replicate
theorem A0g_0 (j : Int32) : getA (A0 0) j = 0 := getA_rep _ _
theorem A0l_1 : (A0 1).length = 16 := List.length_replicate
theorem A0g_1 (j : Int32) : getA (A0 1) j = 0 := getA_rep _ _
theorem A0l_2 : (A0 2).length = 16 := List.length_replicate
theorem A0g_2 (j : Int32) : getA (A0 2) j = 0 := getA_rep _ _
theorem A0l_3 : (A0 3).length = 16640 := List.length_replicate
theorem A0g_3 (j : Int32) : getA (A0 3) j = 0 := getA_rep _ _
theorem A0l_4 : (A0 4).length = 65 := List.length_replicate
theorem A0g_4 (j : Int32) : getA (A0 4) j = 0 := getA_rep _ _
theorem A0l_5 : (A0 5).length = 65 := List.length_replicate
theorem A0g_5 (j : Int32) : getA (A0 5) j = 0 := getA_rep _ _
theorem A0l_6 : (A0 6).length = 65 := List.length_replicate
theorem A0g_6 (j : Int32) : getA (A0 6) j = 0 := getA_rep _ _
theorem A0l_7 : (A0 7).length = 256 := List.length_replicate
theorem A0g_7 (j : Int32) : getA (A0 7) j = 0 := getA_rep _ _
theorem A0l_8 : (A0 8).length = 256 := List.length_replicate
theorem A0g_8 (j : Int32) : getA (A0 8) j = 0 := getA_rep _ _
theorem A0l_9 : (A0 9).length = 16 := List.length_replicate
theorem A0g_9 (j : Int32) : getA (A0 9) j = 0 := getA_rep _ _
theorem A0l_10 : (A0 10).length = 64 := List.length_replicate
theorem A0g_10 (j : Int32) : getA (A0 10) j = 0 := getA_rep _ _
theorem A0l_11 : (A0 11).length = 64 := List.length_replicate
theorem A0g_11 (j : Int32) : getA (A0 11) j = 0 := getA_rep _ _
theorem own_ctor0 (hb : pre.length = b) (hk : 1 ≤ b) : M0 0 (.val (.ref b) :: [l1, l2]) [] (pre ++ [(.object "StreamSigScanner", D0)]) Q = M0 103 (.val (.ref b) :: [l1, l2]) [] (put b pre (fun _ => 0) A0 []) Q := by
  rw [m0_0, m0_1, m0_4a hb hk (by (repeat rw [List.length_set]); exact Nat.le_of_ble_eq_true rfl), m0_12a hb hk (by (repeat rw [List.length_set]); exact Nat.le_of_ble_eq_true rfl), m0_20a hb hk (by (repeat rw [List.length_set]); exact Nat.le_of_ble_eq_true rfl), m0_28a hb hk (by (repeat rw [List.length_set]); exact Nat.le_of_ble_eq_true rfl), m0_37a hb hk (by (repeat rw [List.length_set]); exact Nat.le_of_ble_eq_true rfl), m0_45a hb hk (by (repeat rw [List.length_set]); exact Nat.le_of_ble_eq_true rfl), m0_53a hb hk (by (repeat rw [List.length_set]); exact Nat.le_of_ble_eq_true rfl), m0_61a hb hk (by (repeat rw [List.length_set]); exact Nat.le_of_ble_eq_true rfl), m0_70a hb hk (by (repeat rw [List.length_set]); exact Nat.le_of_ble_eq_true rfl), m0_79a hb hk (by (repeat rw [List.length_set]); exact Nat.le_of_ble_eq_true rfl), m0_87a hb hk (by (repeat rw [List.length_set]); exact Nat.le_of_ble_eq_true rfl), m0_95a hb hk (by (repeat rw [List.length_set]); exact Nat.le_of_ble_eq_true rfl)]
  simp only [put, pad_eq hb, objv, D0, A0, List.map_replicate, List.set_cons_succ, List.set_cons_zero, List.nil_append, List.cons_append, List.length_cons, List.length_nil, List.append_nil]
end Rules
/- methods: 0=StreamSigScanner.<init>(I)V; 1=StreamSigScanner.stat(I)I; 2=StreamSigScanner.openSegment(I)I; 3=StreamSigScanner.flag(Z)I; 4=StreamSigScanner.byteAt(I)I; 5=StreamSigScanner.isOffset(I)Z; 6=StreamSigScanner.matchSig(I)I; 7=StreamSigScanner.validRecord(I)Z; 8=StreamSigScanner.matchEnd(I)I; 9=StreamSigScanner.endSig()I; 10=StreamSigScanner.addSigByte(I)I; 11=StreamSigScanner.isByte(I)Z; 12=StreamSigScanner.compile()I; 13=StreamSigScanner.buildTrie()V; 14=StreamSigScanner.clearAutomaton()V; 15=StreamSigScanner.insertSig(I)V; 16=StreamSigScanner.buildAutomaton()V; 17=StreamSigScanner.segByte(I)I; 18=StreamSigScanner.closeSegment()I; 19=StreamSigScanner.absorbByte(III)V; 20=StreamSigScanner.advanceDelivered()V; 21=StreamSigScanner.feed(II)V; 22=StreamSigScanner.recordMatch(II)V; 23=StreamSigScannerL7.same(LStreamSigScanner;LStreamSigScanner;)Z; 24=StreamSigScannerL7.fill(LStreamSigScanner;III)Z; 25=StreamSigScannerL7.law([I)Z -/
def LN (A : Nat → List Int32) : Prop := ∀ i, (A i).length = (A0 i).length
theorem LN_ou {A : Nat → List Int32} {j : Nat} {l : List Int32} (h : LN A) (hl : l.length = (A0 j).length) : LN (ou A j l) := len_ou h hl
theorem in_lt {A : Nat → List Int32} {k : Nat} {j n : Int32} (h : LN A) (hk : ((A0 k).length : Int) = n.toInt) (h0 : ¬ j < 0) (h1 : j < n) : inB j (A k) := inB_lt (by rw [h k]; exact hk) h0 h1
theorem z0 : ((A0 0).length : Int) = (64 : Int32).toInt := by rw [A0l_0]; rfl
theorem z1 : ((A0 1).length : Int) = (16 : Int32).toInt := by rw [A0l_1]; rfl
theorem z2 : ((A0 2).length : Int) = (16 : Int32).toInt := by rw [A0l_2]; rfl
theorem z3 : ((A0 3).length : Int) = (16640 : Int32).toInt := by rw [A0l_3]; rfl
theorem z4 : ((A0 4).length : Int) = (65 : Int32).toInt := by rw [A0l_4]; rfl
theorem z5 : ((A0 5).length : Int) = (65 : Int32).toInt := by rw [A0l_5]; rfl
theorem z6 : ((A0 6).length : Int) = (65 : Int32).toInt := by rw [A0l_6]; rfl
theorem z7 : ((A0 7).length : Int) = (256 : Int32).toInt := by rw [A0l_7]; rfl
theorem z8 : ((A0 8).length : Int) = (256 : Int32).toInt := by rw [A0l_8]; rfl
theorem z9 : ((A0 9).length : Int) = (16 : Int32).toInt := by rw [A0l_9]; rfl
theorem z10 : ((A0 10).length : Int) = (64 : Int32).toInt := by rw [A0l_10]; rfl
theorem z11 : ((A0 11).length : Int) = (64 : Int32).toInt := by rw [A0l_11]; rfl
theorem i_2 : (2 : Int32).toInt = 2 := rfl
theorem i_3 : (3 : Int32).toInt = 3 := rfl
theorem i_4 : (4 : Int32).toInt = 4 := rfl
theorem i_15 : (15 : Int32).toInt = 15 := rfl
theorem i_16 : (16 : Int32).toInt = 16 := rfl
theorem i_64 : (64 : Int32).toInt = 64 := rfl
theorem i_65 : (65 : Int32).toInt = 65 := rfl
theorem i_255 : (255 : Int32).toInt = 255 := rfl
theorem i_256 : (256 : Int32).toInt = 256 := rfl
theorem i_16640 : (16640 : Int32).toInt = 16640 := rfl
theorem i_m1 : (-1 : Int32).toInt = -1 := rfl
/-- what compile leaves alone -/
def FC (A A' : Nat → List Int32) : Prop := ∀ j, j < 3 ∨ 6 < j → A' j = A j
theorem FC_r (A : Nat → List Int32) : FC A A := fun _ _ => rfl
theorem FC_t {A B D : Nat → List Int32} (h : FC A B) (k : FC B D) : FC A D := fun j hj => (k j hj).trans (h j hj)
theorem FC_ou {A : Nat → List Int32} {B : Nat → List Int32} {k : Nat} {l : List Int32} (h : FC A B) (h1 : 3 ≤ k) (h2 : k ≤ 6) : FC A (ou B k l) := fun j hj => by
  rw [ou_a, if_neg (by omega)]
  exact h j hj
theorem idx256 {u c : Int32} (u0 : ¬ u < 0) (u1 : u < 65) (c0 : ¬ c < 0) (c1 : c < 256) : ¬ u * 256 + c < 0 ∧ u * 256 + c < 16640 := by
  rw [nn_i] at *
  rw [lt_i, i_65] at u1
  rw [lt_i, i_256] at c1
  have e1 : (u * 256).toInt = u.toInt * 256 := by
    have := mul_i (a := u) (b := 256) (by rw [i_256]; omega) (by rw [i_256]; omega)
    rw [this, i_256]
  have e2 : (u * 256 + c).toInt = u.toInt * 256 + c.toInt := by
    have := add_i (a := u * 256) (b := c) (by rw [e1]; omega) (by rw [e1]; omega)
    rw [this, e1]
  rw [lt_i, e2, i_16640]
  omega
theorem pos_nn {a : Int32} (h : 0 < a) : ¬ a < 0 := by rw [nn_i]; rw [lt_i, i_0] at h; omega
section Scan
variable {s : Nat → Int32} {A : Nat → List Int32}
theorem d14b : ∀ (n : Nat) (i : Int32) (A : Nat → List Int32), LN A → ¬ i < 0 → i.toInt + n = 65 → ∃ (A' : Nat → List Int32), (LN A' ∧ FC A A') ∧ ∀ (b : Nat) (pre post : AHeap) (Q : Option Value → AHeap → Prop), Q none (put (b + 1) pre s A' post) → M14 24 [.val (.ref (b + 1)), .val (.int i)] [] (put (b + 1) pre s A post) Q := by
  intro n
  induction n with
  | zero =>
    intro i A h h0 e
    have hge : ¬ i < 65 := by rw [lt_i, i_65]; omega
    refine ⟨A, ⟨h, FC_r A⟩, fun b pre post Q hq => ?_⟩
    rw [m14_24]
    simp [hge, m14_0, m14_1u, m14_3, m14_6, m14_9, m14_10, m14_13, m14_14, m14_15, m14_16, m14_19, m14_22, m14_23i, m14_25, m14_27, m14_30, m14_31, m14_34, m14_35, m14_36, m14_37, m14_38, m14_41, m14_42, m14_43, m14_44, m14_45, m14_48, m14_49, m14_50, m14_51, m14_54, m14_57, nb0, nb1, ou_a, Option.toList_some, Option.toList_none, List.nil_append, List.cons_append]
    exact hq
  | succ n ih =>
    intro i A h h0 e
    have hlt : i < 65 := by rw [lt_i, i_65]; omega
    have k4 := in_lt h z4 h0 hlt
    have k5 := in_lt h z5 h0 hlt
    have k6 := in_lt h z6 h0 hlt
    obtain ⟨A', ⟨g1, g2⟩, hv⟩ := ih (i + 1) (ou (ou (ou A 4 (setA (A 4) i 0)) 5 (setA (A 5) i 0)) 6 (setA (A 6) i 0)) (by (repeat refine LN_ou ?_ (by simp only [setA_len]; exact h _)); exact h) (succ_nn h0 (by omega)) (by rw [add1_i (by omega)]; omega)
    refine ⟨A', ⟨g1, FC_t (by (repeat refine FC_ou ?_ (by decide) (by decide)); exact FC_r _) g2⟩, fun b pre post Q hq => ?_⟩
    rw [m14_24]
    simp [hlt, k4, k5, k6, m14_0, m14_1u, m14_3, m14_6, m14_9, m14_10, m14_13, m14_14, m14_15, m14_16, m14_19, m14_22, m14_23i, m14_25, m14_27, m14_30, m14_31, m14_34, m14_35, m14_36, m14_37, m14_38, m14_41, m14_42, m14_43, m14_44, m14_45, m14_48, m14_49, m14_50, m14_51, m14_54, m14_57, nb0, nb1, ou_a, Option.toList_some, Option.toList_none, List.nil_append, List.cons_append]
    exact hv b pre post Q hq
theorem d14a : ∀ (n : Nat) (i : Int32) (A : Nat → List Int32), LN A → ¬ i < 0 → i.toInt + n = 16640 → ∃ (A' : Nat → List Int32), (LN A' ∧ FC A A') ∧ ∀ (b : Nat) (pre post : AHeap) (Q : Option Value → AHeap → Prop), Q none (put (b + 1) pre s A' post) → M14 2 [.val (.ref (b + 1)), .val (.int i)] [] (put (b + 1) pre s A post) Q := by
  intro n
  induction n with
  | zero =>
    intro i A h h0 e
    have hge : ¬ i < 16640 := by rw [lt_i, i_16640]; omega
    obtain ⟨A', g, hv⟩ := d14b (s := s) 65 0 A h (by decide) rfl
    refine ⟨A', g, fun b pre post Q hq => ?_⟩
    rw [m14_2]
    simp [hge, m14_0, m14_1u, m14_3, m14_6, m14_9, m14_10, m14_13, m14_14, m14_15, m14_16, m14_19, m14_22, m14_23i, m14_25, m14_27, m14_30, m14_31, m14_34, m14_35, m14_36, m14_37, m14_38, m14_41, m14_42, m14_43, m14_44, m14_45, m14_48, m14_49, m14_50, m14_51, m14_54, m14_57, nb0, nb1, ou_a, Option.toList_some, Option.toList_none, List.nil_append, List.cons_append]
    exact hv b pre post Q hq
  | succ n ih =>
    intro i A h h0 e
    have hlt : i < 16640 := by rw [lt_i, i_16640]; omega
    have k3 := in_lt h z3 h0 hlt
    obtain ⟨A', ⟨g1, g2⟩, hv⟩ := ih (i + 1) (ou A 3 (setA (A 3) i 0)) (by (repeat refine LN_ou ?_ (by simp only [setA_len]; exact h _)); exact h) (succ_nn h0 (by omega)) (by rw [add1_i (by omega)]; omega)
    refine ⟨A', ⟨g1, FC_t (by (repeat refine FC_ou ?_ (by decide) (by decide)); exact FC_r _) g2⟩, fun b pre post Q hq => ?_⟩
    rw [m14_2]
    simp [hlt, k3, m14_0, m14_1u, m14_3, m14_6, m14_9, m14_10, m14_13, m14_14, m14_15, m14_16, m14_19, m14_22, m14_23i, m14_25, m14_27, m14_30, m14_31, m14_34, m14_35, m14_36, m14_37, m14_38, m14_41, m14_42, m14_43, m14_44, m14_45, m14_48, m14_49, m14_50, m14_51, m14_54, m14_57, nb0, nb1, ou_a, Option.toList_some, Option.toList_none, List.nil_append, List.cons_append]
    exact hv b pre post Q hq
theorem d14 (h : LN A) : ∃ (A' : Nat → List Int32), (LN A' ∧ FC A A') ∧ ∀ (b : Nat) (pre post : AHeap) (Q : Option Value → AHeap → Prop), Q none (put (b + 1) pre s A' post) → M14 0 [.val (.ref (b + 1)), .unset] [] (put (b + 1) pre s A post) Q := by
  obtain ⟨A', g, hv⟩ := d14a (s := s) 16640 0 A h (by decide) rfl
  refine ⟨A', g, fun b pre post Q hq => ?_⟩
  simp [m14_0, m14_1u, m14_3, m14_6, m14_9, m14_10, m14_13, m14_14, m14_15, m14_16, m14_19, m14_22, m14_23i, m14_25, m14_27, m14_30, m14_31, m14_34, m14_35, m14_36, m14_37, m14_38, m14_41, m14_42, m14_43, m14_44, m14_45, m14_48, m14_49, m14_50, m14_51, m14_54, m14_57, nb0, nb1, ou_a, Option.toList_some, Option.toList_none, List.nil_append, List.cons_append]
  exact hv b pre post Q hq
theorem d15e {sg st ln cur j : Int32} {k6 k7 : Slot} (h : LN A) : ∃ (A' : Nat → List Int32), (LN A' ∧ FC A A') ∧ ∀ (b : Nat) (pre post : AHeap) (Q : Option Value → AHeap → Prop), Q none (put (b + 1) pre s A' post) → M15 149 [.val (.ref (b + 1)), .val (.int sg), .val (.int st), .val (.int ln), .val (.int cur), .val (.int j), k6, k7] [] (put (b + 1) pre s A post) Q := by
  by_cases a1 : cur < 0
  · exact ⟨A, ⟨h, FC_r A⟩, fun b pre post Q hq => by simp [a1, m15_0, m15_1, m15_4, m15_5, m15_7, m15_10, m15_11, m15_12, m15_15, m15_16, m15_17u, m15_18, m15_19, m15_22, m15_23, m15_24u, m15_25, m15_26u, m15_28, m15_29u, m15_33, m15_34, m15_37, m15_39, m15_41, m15_44, m15_45, m15_47, m15_48u, m15_48i, m15_48r, m15_48g, m15_50, m15_52, m15_55, m15_57, m15_59, m15_62, m15_63, m15_65, m15_68, m15_69, m15_70, m15_73, m15_75, m15_76, m15_77u, m15_77i, m15_77r, m15_77g, m15_79, m15_81, m15_84, m15_86, m15_89, m15_92, m15_93, m15_94, m15_97, m15_99, m15_100, m15_103, m15_104, m15_107, m15_109, m15_112, m15_113, m15_114, m15_117, m15_119, m15_120, m15_123, m15_124, m15_125, m15_126, m15_129, m15_130, m15_131, m15_134, m15_135, m15_138, m15_140, m15_141i, m15_143, m15_146, m15_149, m15_151, m15_154, m15_156, m15_158, m15_161, m15_162, m15_165, m15_167, m15_168, m15_169, m15_170, m15_171, m15_172, m15_173, m15_174, nb0, nb1, ou_a, Option.toList_some, Option.toList_none, List.nil_append, List.cons_append]; exact hq⟩
  by_cases a2 : cur < 65
  · have k := in_lt h z5 a1 a2
    refine ⟨ou A 5 (setA (A 5) cur (getA (A 5) cur ||| (1 <<< (sg &&& 31)))), ⟨(by (repeat refine LN_ou ?_ (by simp only [setA_len]; exact h _)); exact h), (by (repeat refine FC_ou ?_ (by decide) (by decide)); exact FC_r _)⟩, fun b pre post Q hq => ?_⟩
    simp [a1, a2, k, m15_0, m15_1, m15_4, m15_5, m15_7, m15_10, m15_11, m15_12, m15_15, m15_16, m15_17u, m15_18, m15_19, m15_22, m15_23, m15_24u, m15_25, m15_26u, m15_28, m15_29u, m15_33, m15_34, m15_37, m15_39, m15_41, m15_44, m15_45, m15_47, m15_48u, m15_48i, m15_48r, m15_48g, m15_50, m15_52, m15_55, m15_57, m15_59, m15_62, m15_63, m15_65, m15_68, m15_69, m15_70, m15_73, m15_75, m15_76, m15_77u, m15_77i, m15_77r, m15_77g, m15_79, m15_81, m15_84, m15_86, m15_89, m15_92, m15_93, m15_94, m15_97, m15_99, m15_100, m15_103, m15_104, m15_107, m15_109, m15_112, m15_113, m15_114, m15_117, m15_119, m15_120, m15_123, m15_124, m15_125, m15_126, m15_129, m15_130, m15_131, m15_134, m15_135, m15_138, m15_140, m15_141i, m15_143, m15_146, m15_149, m15_151, m15_154, m15_156, m15_158, m15_161, m15_162, m15_165, m15_167, m15_168, m15_169, m15_170, m15_171, m15_172, m15_173, m15_174, nb0, nb1, ou_a, Option.toList_some, Option.toList_none, List.nil_append, List.cons_append]
    exact hq
  · exact ⟨A, ⟨h, FC_r A⟩, fun b pre post Q hq => by simp [a1, a2, m15_0, m15_1, m15_4, m15_5, m15_7, m15_10, m15_11, m15_12, m15_15, m15_16, m15_17u, m15_18, m15_19, m15_22, m15_23, m15_24u, m15_25, m15_26u, m15_28, m15_29u, m15_33, m15_34, m15_37, m15_39, m15_41, m15_44, m15_45, m15_47, m15_48u, m15_48i, m15_48r, m15_48g, m15_50, m15_52, m15_55, m15_57, m15_59, m15_62, m15_63, m15_65, m15_68, m15_69, m15_70, m15_73, m15_75, m15_76, m15_77u, m15_77i, m15_77r, m15_77g, m15_79, m15_81, m15_84, m15_86, m15_89, m15_92, m15_93, m15_94, m15_97, m15_99, m15_100, m15_103, m15_104, m15_107, m15_109, m15_112, m15_113, m15_114, m15_117, m15_119, m15_120, m15_123, m15_124, m15_125, m15_126, m15_129, m15_130, m15_131, m15_134, m15_135, m15_138, m15_140, m15_141i, m15_143, m15_146, m15_149, m15_151, m15_154, m15_156, m15_158, m15_161, m15_162, m15_165, m15_167, m15_168, m15_169, m15_170, m15_171, m15_172, m15_173, m15_174, nb0, nb1, ou_a, Option.toList_some, Option.toList_none, List.nil_append, List.cons_append]; exact hq⟩
set_option maxRecDepth 1000000 in
set_option maxHeartbeats 20000000 in
theorem d15a {sg st ln : Int32} : ∀ (n : Nat) (j cur : Int32) (k6 k7 : Slot) (s : Nat → Int32) (A : Nat → List Int32), LN A → okS k6 → okS k7 → ¬ j < 0 → j.toInt + n = 16 → ∃ (s' : Nat → Int32) (A' : Nat → List Int32), (LN A' ∧ FC A A' ∧ (∀ i, i ≠ 5 → s' i = s i)) ∧ ∀ (b : Nat) (pre post : AHeap) (Q : Option Value → AHeap → Prop), Q none (put (b + 1) pre s' A' post) → M15 31 [.val (.ref (b + 1)), .val (.int sg), .val (.int st), .val (.int ln), .val (.int cur), .val (.int j), k6, k7] [] (put (b + 1) pre s A post) Q := by
  intro n
  induction n with
  | zero =>
    intro j cur k6 k7 s A h o6 o7 h0 e
    have hge : ¬ j < 16 := by rw [lt_i, i_16]; omega
    by_cases b1 : j < ln
    · obtain ⟨A', ⟨g1, g2⟩, hv⟩ := d15e (s := s) (sg := sg) (st := st) (ln := ln) (cur := cur) (j := j) (k6 := k6) (k7 := k7) h
      refine ⟨s, A', ⟨g1, g2, fun _ _ => rfl⟩, fun b pre post Q hq => ?_⟩
      rw [m15_31]
      simp [hge, b1, m15_0, m15_1, m15_4, m15_5, m15_7, m15_10, m15_11, m15_12, m15_15, m15_16, m15_17u, m15_18, m15_19, m15_22, m15_23, m15_24u, m15_25, m15_26u, m15_28, m15_29u, m15_33, m15_34, m15_37, m15_39, m15_41, m15_44, m15_45, m15_47, m15_48u, m15_48i, m15_48r, m15_48g, m15_50, m15_52, m15_55, m15_57, m15_59, m15_62, m15_63, m15_65, m15_68, m15_69, m15_70, m15_73, m15_75, m15_76, m15_77u, m15_77i, m15_77r, m15_77g, m15_79, m15_81, m15_84, m15_86, m15_89, m15_92, m15_93, m15_94, m15_97, m15_99, m15_100, m15_103, m15_104, m15_107, m15_109, m15_112, m15_113, m15_114, m15_117, m15_119, m15_120, m15_123, m15_124, m15_125, m15_126, m15_129, m15_130, m15_131, m15_134, m15_135, m15_138, m15_140, m15_141i, m15_143, m15_146, m15_151, m15_154, m15_156, m15_158, m15_161, m15_162, m15_165, m15_167, m15_168, m15_169, m15_170, m15_171, m15_172, m15_173, m15_174, nb0, nb1, ou_a, Option.toList_some, Option.toList_none, List.nil_append, List.cons_append]
      exact hv b pre post Q hq
    · obtain ⟨A', ⟨g1, g2⟩, hv⟩ := d15e (s := s) (sg := sg) (st := st) (ln := ln) (cur := cur) (j := j) (k6 := k6) (k7 := k7) h
      refine ⟨s, A', ⟨g1, g2, fun _ _ => rfl⟩, fun b pre post Q hq => ?_⟩
      rw [m15_31]
      simp [b1, m15_0, m15_1, m15_4, m15_5, m15_7, m15_10, m15_11, m15_12, m15_15, m15_16, m15_17u, m15_18, m15_19, m15_22, m15_23, m15_24u, m15_25, m15_26u, m15_28, m15_29u, m15_33, m15_34, m15_37, m15_39, m15_41, m15_44, m15_45, m15_47, m15_48u, m15_48i, m15_48r, m15_48g, m15_50, m15_52, m15_55, m15_57, m15_59, m15_62, m15_63, m15_65, m15_68, m15_69, m15_70, m15_73, m15_75, m15_76, m15_77u, m15_77i, m15_77r, m15_77g, m15_79, m15_81, m15_84, m15_86, m15_89, m15_92, m15_93, m15_94, m15_97, m15_99, m15_100, m15_103, m15_104, m15_107, m15_109, m15_112, m15_113, m15_114, m15_117, m15_119, m15_120, m15_123, m15_124, m15_125, m15_126, m15_129, m15_130, m15_131, m15_134, m15_135, m15_138, m15_140, m15_141i, m15_143, m15_146, m15_151, m15_154, m15_156, m15_158, m15_161, m15_162, m15_165, m15_167, m15_168, m15_169, m15_170, m15_171, m15_172, m15_173, m15_174, nb0, nb1, ou_a, Option.toList_some, Option.toList_none, List.nil_append, List.cons_append]
      exact hv b pre post Q hq
  | succ n ih =>
    intro j cur k6 k7 s A h o6 o7 h0 e
    have hlt : j < 16 := by rw [lt_i, i_16]; omega
    have e1 := add1_i (a := j) (by omega)
    have n1 := succ_nn h0 (by omega)
    by_cases b1 : j < ln
    · by_cases b2 : st + j < 0
      · refine ⟨s, A, ⟨h, FC_r A, fun _ _ => rfl⟩, fun b pre post Q hq => ?_⟩
        rw [m15_31]
        simp [hlt, b1, b2, o6, o7, m15_0, m15_1, m15_4, m15_5, m15_7, m15_10, m15_11, m15_12, m15_15, m15_16, m15_17u, m15_18, m15_19, m15_22, m15_23, m15_24u, m15_25, m15_26u, m15_28, m15_29u, m15_33, m15_34, m15_37, m15_39, m15_41, m15_44, m15_45, m15_47, m15_48u, m15_48i, m15_48r, m15_48g, m15_50, m15_52, m15_55, m15_57, m15_59, m15_62, m15_63, m15_65, m15_68, m15_69, m15_70, m15_73, m15_75, m15_76, m15_77u, m15_77i, m15_77r, m15_77g, m15_79, m15_81, m15_84, m15_86, m15_89, m15_92, m15_93, m15_94, m15_97, m15_99, m15_100, m15_103, m15_104, m15_107, m15_109, m15_112, m15_113, m15_114, m15_117, m15_119, m15_120, m15_123, m15_124, m15_125, m15_126, m15_129, m15_130, m15_131, m15_134, m15_135, m15_138, m15_140, m15_141i, m15_143, m15_146, m15_151, m15_154, m15_156, m15_158, m15_161, m15_162, m15_165, m15_167, m15_168, m15_169, m15_170, m15_171, m15_172, m15_173, m15_174, nb0, nb1, ou_a, Option.toList_some, Option.toList_none, List.nil_append, List.cons_append]
        exact hq
      by_cases b3 : st + j < 64
      · have k0 := in_lt h z0 b2 b3
        by_cases b4 : (cur * 256 + getA (A 0) (st + j)) < 0
        · refine ⟨s, A, ⟨h, FC_r A, fun _ _ => rfl⟩, fun b pre post Q hq => ?_⟩
          rw [m15_31]
          simp [hlt, b1, b2, b3, b4, k0, o6, o7, m15_0, m15_1, m15_4, m15_5, m15_7, m15_10, m15_11, m15_12, m15_15, m15_16, m15_17u, m15_18, m15_19, m15_22, m15_23, m15_24u, m15_25, m15_26u, m15_28, m15_29u, m15_33, m15_34, m15_37, m15_39, m15_41, m15_44, m15_45, m15_47, m15_48u, m15_48i, m15_48r, m15_48g, m15_50, m15_52, m15_55, m15_57, m15_59, m15_62, m15_63, m15_65, m15_68, m15_69, m15_70, m15_73, m15_75, m15_76, m15_77u, m15_77i, m15_77r, m15_77g, m15_79, m15_81, m15_84, m15_86, m15_89, m15_92, m15_93, m15_94, m15_97, m15_99, m15_100, m15_103, m15_104, m15_107, m15_109, m15_112, m15_113, m15_114, m15_117, m15_119, m15_120, m15_123, m15_124, m15_125, m15_126, m15_129, m15_130, m15_131, m15_134, m15_135, m15_138, m15_140, m15_141i, m15_143, m15_146, m15_151, m15_154, m15_156, m15_158, m15_161, m15_162, m15_165, m15_167, m15_168, m15_169, m15_170, m15_171, m15_172, m15_173, m15_174, nb0, nb1, ou_a, Option.toList_some, Option.toList_none, List.nil_append, List.cons_append]
          exact hq
        by_cases b5 : (cur * 256 + getA (A 0) (st + j)) < 16640
        · have k3 := in_lt h z3 b4 b5
          by_cases b6 : getA (A 3) (cur * 256 + getA (A 0) (st + j)) = 0
          · by_cases b7 : s 5 < 65
            · obtain ⟨s', A', ⟨g1, g2, g3⟩, hv⟩ := ih (j + 1) (getA (setA (A 3) (cur * 256 + getA (A 0) (st + j)) (s 5)) (cur * 256 + getA (A 0) (st + j))) (.val (.int (st + j))) (.val (.int (cur * 256 + getA (A 0) (st + j)))) (ou s 5 (s 5 + 1)) (ou A 3 (setA (A 3) (cur * 256 + getA (A 0) (st + j)) (s 5))) (by (repeat refine LN_ou ?_ (by simp only [setA_len]; exact h _)); exact h) (okS_i _) (okS_i _) n1 (by rw [e1]; omega)
              refine ⟨s', A', ⟨g1, FC_t (by (repeat refine FC_ou ?_ (by decide) (by decide)); exact FC_r _) g2, fun i hi => (g3 i hi).trans (by rw [ou_a, if_neg hi])⟩, fun b pre post Q hq => ?_⟩
              rw [m15_31]
              simp [hlt, b1, b2, b3, b4, b5, b6, b7, k0, k3, inB_set, o6, o7, m15_0, m15_1, m15_4, m15_5, m15_7, m15_10, m15_11, m15_12, m15_15, m15_16, m15_17u, m15_18, m15_19, m15_22, m15_23, m15_24u, m15_25, m15_26u, m15_28, m15_29u, m15_33, m15_34, m15_37, m15_39, m15_41, m15_44, m15_45, m15_47, m15_48u, m15_48i, m15_48r, m15_48g, m15_50, m15_52, m15_55, m15_57, m15_59, m15_62, m15_63, m15_65, m15_68, m15_69, m15_70, m15_73, m15_75, m15_76, m15_77u, m15_77i, m15_77r, m15_77g, m15_79, m15_81, m15_84, m15_86, m15_89, m15_92, m15_93, m15_94, m15_97, m15_99, m15_100, m15_103, m15_104, m15_107, m15_109, m15_112, m15_113, m15_114, m15_117, m15_119, m15_120, m15_123, m15_124, m15_125, m15_126, m15_129, m15_130, m15_131, m15_134, m15_135, m15_138, m15_140, m15_141i, m15_143, m15_146, m15_151, m15_154, m15_156, m15_158, m15_161, m15_162, m15_165, m15_167, m15_168, m15_169, m15_170, m15_171, m15_172, m15_173, m15_174, nb0, nb1, ou_a, Option.toList_some, Option.toList_none, List.nil_append, List.cons_append]
              exact hv b pre post Q hq
            · refine ⟨s, A, ⟨h, FC_r A, fun _ _ => rfl⟩, fun b pre post Q hq => ?_⟩
              rw [m15_31]
              simp [hlt, b1, b2, b3, b4, b5, b6, b7, k0, k3, o6, o7, m15_0, m15_1, m15_4, m15_5, m15_7, m15_10, m15_11, m15_12, m15_15, m15_16, m15_17u, m15_18, m15_19, m15_22, m15_23, m15_24u, m15_25, m15_26u, m15_28, m15_29u, m15_33, m15_34, m15_37, m15_39, m15_41, m15_44, m15_45, m15_47, m15_48u, m15_48i, m15_48r, m15_48g, m15_50, m15_52, m15_55, m15_57, m15_59, m15_62, m15_63, m15_65, m15_68, m15_69, m15_70, m15_73, m15_75, m15_76, m15_77u, m15_77i, m15_77r, m15_77g, m15_79, m15_81, m15_84, m15_86, m15_89, m15_92, m15_93, m15_94, m15_97, m15_99, m15_100, m15_103, m15_104, m15_107, m15_109, m15_112, m15_113, m15_114, m15_117, m15_119, m15_120, m15_123, m15_124, m15_125, m15_126, m15_129, m15_130, m15_131, m15_134, m15_135, m15_138, m15_140, m15_141i, m15_143, m15_146, m15_151, m15_154, m15_156, m15_158, m15_161, m15_162, m15_165, m15_167, m15_168, m15_169, m15_170, m15_171, m15_172, m15_173, m15_174, nb0, nb1, ou_a, Option.toList_some, Option.toList_none, List.nil_append, List.cons_append]
              exact hq
          · obtain ⟨s', A', ⟨g1, g2, g3⟩, hv⟩ := ih (j + 1) (getA (A 3) (cur * 256 + getA (A 0) (st + j))) (.val (.int (st + j))) (.val (.int (cur * 256 + getA (A 0) (st + j)))) s A h (okS_i _) (okS_i _) n1 (by rw [e1]; omega)
            refine ⟨s', A', ⟨g1, g2, g3⟩, fun b pre post Q hq => ?_⟩
            rw [m15_31]
            simp [hlt, b1, b2, b3, b4, b5, b6, k0, k3, o6, o7, m15_0, m15_1, m15_4, m15_5, m15_7, m15_10, m15_11, m15_12, m15_15, m15_16, m15_17u, m15_18, m15_19, m15_22, m15_23, m15_24u, m15_25, m15_26u, m15_28, m15_29u, m15_33, m15_34, m15_37, m15_39, m15_41, m15_44, m15_45, m15_47, m15_48u, m15_48i, m15_48r, m15_48g, m15_50, m15_52, m15_55, m15_57, m15_59, m15_62, m15_63, m15_65, m15_68, m15_69, m15_70, m15_73, m15_75, m15_76, m15_77u, m15_77i, m15_77r, m15_77g, m15_79, m15_81, m15_84, m15_86, m15_89, m15_92, m15_93, m15_94, m15_97, m15_99, m15_100, m15_103, m15_104, m15_107, m15_109, m15_112, m15_113, m15_114, m15_117, m15_119, m15_120, m15_123, m15_124, m15_125, m15_126, m15_129, m15_130, m15_131, m15_134, m15_135, m15_138, m15_140, m15_141i, m15_143, m15_146, m15_151, m15_154, m15_156, m15_158, m15_161, m15_162, m15_165, m15_167, m15_168, m15_169, m15_170, m15_171, m15_172, m15_173, m15_174, nb0, nb1, ou_a, Option.toList_some, Option.toList_none, List.nil_append, List.cons_append]
            exact hv b pre post Q hq
        · refine ⟨s, A, ⟨h, FC_r A, fun _ _ => rfl⟩, fun b pre post Q hq => ?_⟩
          rw [m15_31]
          simp [hlt, b1, b2, b3, b4, b5, k0, o6, o7, m15_0, m15_1, m15_4, m15_5, m15_7, m15_10, m15_11, m15_12, m15_15, m15_16, m15_17u, m15_18, m15_19, m15_22, m15_23, m15_24u, m15_25, m15_26u, m15_28, m15_29u, m15_33, m15_34, m15_37, m15_39, m15_41, m15_44, m15_45, m15_47, m15_48u, m15_48i, m15_48r, m15_48g, m15_50, m15_52, m15_55, m15_57, m15_59, m15_62, m15_63, m15_65, m15_68, m15_69, m15_70, m15_73, m15_75, m15_76, m15_77u, m15_77i, m15_77r, m15_77g, m15_79, m15_81, m15_84, m15_86, m15_89, m15_92, m15_93, m15_94, m15_97, m15_99, m15_100, m15_103, m15_104, m15_107, m15_109, m15_112, m15_113, m15_114, m15_117, m15_119, m15_120, m15_123, m15_124, m15_125, m15_126, m15_129, m15_130, m15_131, m15_134, m15_135, m15_138, m15_140, m15_141i, m15_143, m15_146, m15_151, m15_154, m15_156, m15_158, m15_161, m15_162, m15_165, m15_167, m15_168, m15_169, m15_170, m15_171, m15_172, m15_173, m15_174, nb0, nb1, ou_a, Option.toList_some, Option.toList_none, List.nil_append, List.cons_append]
          exact hq
      · refine ⟨s, A, ⟨h, FC_r A, fun _ _ => rfl⟩, fun b pre post Q hq => ?_⟩
        rw [m15_31]
        simp [hlt, b1, b2, b3, o6, o7, m15_0, m15_1, m15_4, m15_5, m15_7, m15_10, m15_11, m15_12, m15_15, m15_16, m15_17u, m15_18, m15_19, m15_22, m15_23, m15_24u, m15_25, m15_26u, m15_28, m15_29u, m15_33, m15_34, m15_37, m15_39, m15_41, m15_44, m15_45, m15_47, m15_48u, m15_48i, m15_48r, m15_48g, m15_50, m15_52, m15_55, m15_57, m15_59, m15_62, m15_63, m15_65, m15_68, m15_69, m15_70, m15_73, m15_75, m15_76, m15_77u, m15_77i, m15_77r, m15_77g, m15_79, m15_81, m15_84, m15_86, m15_89, m15_92, m15_93, m15_94, m15_97, m15_99, m15_100, m15_103, m15_104, m15_107, m15_109, m15_112, m15_113, m15_114, m15_117, m15_119, m15_120, m15_123, m15_124, m15_125, m15_126, m15_129, m15_130, m15_131, m15_134, m15_135, m15_138, m15_140, m15_141i, m15_143, m15_146, m15_151, m15_154, m15_156, m15_158, m15_161, m15_162, m15_165, m15_167, m15_168, m15_169, m15_170, m15_171, m15_172, m15_173, m15_174, nb0, nb1, ou_a, Option.toList_some, Option.toList_none, List.nil_append, List.cons_append]
        exact hq
    · obtain ⟨A', ⟨g1, g2⟩, hv⟩ := d15e (s := s) (sg := sg) (st := st) (ln := ln) (cur := cur) (j := j) (k6 := k6) (k7 := k7) h
      refine ⟨s, A', ⟨g1, g2, fun _ _ => rfl⟩, fun b pre post Q hq => ?_⟩
      rw [m15_31]
      simp [b1, m15_0, m15_1, m15_4, m15_5, m15_7, m15_10, m15_11, m15_12, m15_15, m15_16, m15_17u, m15_18, m15_19, m15_22, m15_23, m15_24u, m15_25, m15_26u, m15_28, m15_29u, m15_33, m15_34, m15_37, m15_39, m15_41, m15_44, m15_45, m15_47, m15_48u, m15_48i, m15_48r, m15_48g, m15_50, m15_52, m15_55, m15_57, m15_59, m15_62, m15_63, m15_65, m15_68, m15_69, m15_70, m15_73, m15_75, m15_76, m15_77u, m15_77i, m15_77r, m15_77g, m15_79, m15_81, m15_84, m15_86, m15_89, m15_92, m15_93, m15_94, m15_97, m15_99, m15_100, m15_103, m15_104, m15_107, m15_109, m15_112, m15_113, m15_114, m15_117, m15_119, m15_120, m15_123, m15_124, m15_125, m15_126, m15_129, m15_130, m15_131, m15_134, m15_135, m15_138, m15_140, m15_141i, m15_143, m15_146, m15_151, m15_154, m15_156, m15_158, m15_161, m15_162, m15_165, m15_167, m15_168, m15_169, m15_170, m15_171, m15_172, m15_173, m15_174, nb0, nb1, ou_a, Option.toList_some, Option.toList_none, List.nil_append, List.cons_append]
      exact hv b pre post Q hq
theorem d15 (h : LN A) (sg : Int32) : ∃ (s' : Nat → Int32) (A' : Nat → List Int32), (LN A' ∧ FC A A' ∧ (∀ i, i ≠ 5 → s' i = s i)) ∧ ∀ (b : Nat) (pre post : AHeap) (Q : Option Value → AHeap → Prop), Q none (put (b + 1) pre s' A' post) → M15 0 [.val (.ref (b + 1)), .val (.int sg), .unset, .unset, .unset, .unset, .unset, .unset] [] (put (b + 1) pre s A post) Q := by
  by_cases a1 : sg < 0
  · exact ⟨s, A, ⟨h, FC_r A, fun _ _ => rfl⟩, fun b pre post Q hq => by simp [a1, m15_0, m15_1, m15_4, m15_5, m15_7, m15_10, m15_11, m15_12, m15_15, m15_16, m15_17u, m15_18, m15_19, m15_22, m15_23, m15_24u, m15_25, m15_26u, m15_28, m15_29u, m15_33, m15_34, m15_37, m15_39, m15_41, m15_44, m15_45, m15_47, m15_48u, m15_48i, m15_48r, m15_48g, m15_50, m15_52, m15_55, m15_57, m15_59, m15_62, m15_63, m15_65, m15_68, m15_69, m15_70, m15_73, m15_75, m15_76, m15_77u, m15_77i, m15_77r, m15_77g, m15_79, m15_81, m15_84, m15_86, m15_89, m15_92, m15_93, m15_94, m15_97, m15_99, m15_100, m15_103, m15_104, m15_107, m15_109, m15_112, m15_113, m15_114, m15_117, m15_119, m15_120, m15_123, m15_124, m15_125, m15_126, m15_129, m15_130, m15_131, m15_134, m15_135, m15_138, m15_140, m15_141i, m15_143, m15_146, m15_149, m15_151, m15_154, m15_156, m15_158, m15_161, m15_162, m15_165, m15_167, m15_168, m15_169, m15_170, m15_171, m15_172, m15_173, m15_174, nb0, nb1, ou_a, Option.toList_some, Option.toList_none, List.nil_append, List.cons_append]; exact hq⟩
  by_cases a2 : sg < 16
  · have k1 := in_lt h z1 a1 a2
    have k2 := in_lt h z2 a1 a2
    obtain ⟨s', A', g, hv⟩ := d15a (sg := sg) (st := getA (A 1) sg) (ln := getA (A 2) sg) 16 0 0 .unset .unset s A h okS_u okS_u (by decide) rfl
    refine ⟨s', A', g, fun b pre post Q hq => ?_⟩
    simp [a1, a2, k1, k2, m15_0, m15_1, m15_4, m15_5, m15_7, m15_10, m15_11, m15_12, m15_15, m15_16, m15_17u, m15_18, m15_19, m15_22, m15_23, m15_24u, m15_25, m15_26u, m15_28, m15_29u, m15_33, m15_34, m15_37, m15_39, m15_41, m15_44, m15_45, m15_47, m15_48u, m15_48i, m15_48r, m15_48g, m15_50, m15_52, m15_55, m15_57, m15_59, m15_62, m15_63, m15_65, m15_68, m15_69, m15_70, m15_73, m15_75, m15_76, m15_77u, m15_77i, m15_77r, m15_77g, m15_79, m15_81, m15_84, m15_86, m15_89, m15_92, m15_93, m15_94, m15_97, m15_99, m15_100, m15_103, m15_104, m15_107, m15_109, m15_112, m15_113, m15_114, m15_117, m15_119, m15_120, m15_123, m15_124, m15_125, m15_126, m15_129, m15_130, m15_131, m15_134, m15_135, m15_138, m15_140, m15_141i, m15_143, m15_146, m15_149, m15_151, m15_154, m15_156, m15_158, m15_161, m15_162, m15_165, m15_167, m15_168, m15_169, m15_170, m15_171, m15_172, m15_173, m15_174, nb0, nb1, ou_a, Option.toList_some, Option.toList_none, List.nil_append, List.cons_append]
    exact hv b pre post Q hq
  · exact ⟨s, A, ⟨h, FC_r A, fun _ _ => rfl⟩, fun b pre post Q hq => by simp [a1, a2, m15_0, m15_1, m15_4, m15_5, m15_7, m15_10, m15_11, m15_12, m15_15, m15_16, m15_17u, m15_18, m15_19, m15_22, m15_23, m15_24u, m15_25, m15_26u, m15_28, m15_29u, m15_33, m15_34, m15_37, m15_39, m15_41, m15_44, m15_45, m15_47, m15_48u, m15_48i, m15_48r, m15_48g, m15_50, m15_52, m15_55, m15_57, m15_59, m15_62, m15_63, m15_65, m15_68, m15_69, m15_70, m15_73, m15_75, m15_76, m15_77u, m15_77i, m15_77r, m15_77g, m15_79, m15_81, m15_84, m15_86, m15_89, m15_92, m15_93, m15_94, m15_97, m15_99, m15_100, m15_103, m15_104, m15_107, m15_109, m15_112, m15_113, m15_114, m15_117, m15_119, m15_120, m15_123, m15_124, m15_125, m15_126, m15_129, m15_130, m15_131, m15_134, m15_135, m15_138, m15_140, m15_141i, m15_143, m15_146, m15_149, m15_151, m15_154, m15_156, m15_158, m15_161, m15_162, m15_165, m15_167, m15_168, m15_169, m15_170, m15_171, m15_172, m15_173, m15_174, nb0, nb1, ou_a, Option.toList_some, Option.toList_none, List.nil_append, List.cons_append]; exact hq⟩
set_option maxRecDepth 1000000 in
set_option maxHeartbeats 20000000 in
theorem d13a : ∀ (n : Nat) (i : Int32) (s : Nat → Int32) (A : Nat → List Int32), LN A → ¬ i < 0 → i.toInt + n = 16 → ∃ (s' : Nat → Int32) (A' : Nat → List Int32), (LN A' ∧ FC A A' ∧ (∀ i, i ≠ 5 → s' i = s i)) ∧ ∀ (b : Nat) (pre post : AHeap) (Q : Option Value → AHeap → Prop), Q none (put (b + 1) pre s' A' post) → M13 11 [.val (.ref (b + 1)), .val (.int i)] [] (put (b + 1) pre s A post) Q := by
  intro n
  induction n with
  | zero =>
    intro i s A h h0 e
    have hge : ¬ i < 16 := by rw [lt_i, i_16]; omega
    refine ⟨s, A, ⟨h, FC_r A, fun _ _ => rfl⟩, fun b pre post Q hq => ?_⟩
    rw [m13_11]
    by_cases b1 : i < s 2 <;>
    · simp [hge, b1, m13_0, m13_1, m13_4, m13_5, m13_6, m13_9, m13_10u, m13_12, m13_13, m13_16, m13_19, m13_20, m13_22, m13_25, m13_26, m13_27, m13_30, m13_33, m13_36, nb0, nb1, ou_a, Option.toList_some, Option.toList_none, List.nil_append, List.cons_append]
      exact hq
  | succ n ih =>
    intro i s A h h0 e
    have hlt : i < 16 := by rw [lt_i, i_16]; omega
    by_cases b1 : i < s 2
    · obtain ⟨s1, A1, ⟨f1, f2, f3⟩, hv1⟩ := d15 (s := s) h i
      obtain ⟨s', A', ⟨g1, g2, g3⟩, hv⟩ := ih (i + 1) s1 A1 f1 (succ_nn h0 (by omega)) (by rw [add1_i (by omega)]; omega)
      refine ⟨s', A', ⟨g1, FC_t f2 g2, fun k hk => (g3 k hk).trans (f3 k hk)⟩, fun b pre post Q hq => ?_⟩
      rw [m13_11]
      simp [hlt, b1, m13_0, m13_1, m13_4, m13_5, m13_6, m13_9, m13_10u, m13_12, m13_13, m13_16, m13_19, m13_20, m13_22, m13_25, m13_26, m13_27, m13_30, m13_33, m13_36, nb0, nb1, ou_a, Option.toList_some, Option.toList_none, List.nil_append, List.cons_append]
      refine hv1 b pre post _ ?_
      simp [m13_0, m13_1, m13_4, m13_5, m13_6, m13_9, m13_10u, m13_12, m13_13, m13_16, m13_19, m13_20, m13_22, m13_25, m13_26, m13_27, m13_30, m13_33, m13_36, nb0, nb1, ou_a, Option.toList_some, Option.toList_none, List.nil_append, List.cons_append]
      exact hv b pre post Q hq
    · refine ⟨s, A, ⟨h, FC_r A, fun _ _ => rfl⟩, fun b pre post Q hq => ?_⟩
      rw [m13_11]
      simp [b1, m13_0, m13_1, m13_4, m13_5, m13_6, m13_9, m13_10u, m13_12, m13_13, m13_16, m13_19, m13_20, m13_22, m13_25, m13_26, m13_27, m13_30, m13_33, m13_36, nb0, nb1, ou_a, Option.toList_some, Option.toList_none, List.nil_append, List.cons_append]
      exact hq
theorem d13 (h : LN A) : ∃ (s' : Nat → Int32) (A' : Nat → List Int32), (LN A' ∧ FC A A' ∧ (∀ i, i ≠ 5 → s' i = s i)) ∧ ∀ (b : Nat) (pre post : AHeap) (Q : Option Value → AHeap → Prop), Q none (put (b + 1) pre s' A' post) → M13 0 [.val (.ref (b + 1)), .unset] [] (put (b + 1) pre s A post) Q := by
  obtain ⟨A1, ⟨f1, f2⟩, hv1⟩ := d14 (s := s) h
  obtain ⟨s', A', ⟨g1, g2, g3⟩, hv⟩ := d13a 16 0 (ou s 5 1) A1 f1 (by decide) rfl
  refine ⟨s', A', ⟨g1, FC_t f2 g2, fun k hk => (g3 k hk).trans (by rw [ou_a, if_neg hk])⟩, fun b pre post Q hq => ?_⟩
  simp [m13_0, m13_1, m13_4, m13_5, m13_6, m13_9, m13_10u, m13_12, m13_13, m13_16, m13_19, m13_20, m13_22, m13_25, m13_26, m13_27, m13_30, m13_33, m13_36, nb0, nb1, ou_a, Option.toList_some, Option.toList_none, List.nil_append, List.cons_append]
  refine hv1 b pre post _ ?_
  simp [m13_0, m13_1, m13_4, m13_5, m13_6, m13_9, m13_10u, m13_12, m13_13, m13_16, m13_19, m13_20, m13_22, m13_25, m13_26, m13_27, m13_30, m13_33, m13_36, nb0, nb1, ou_a, Option.toList_some, Option.toList_none, List.nil_append, List.cons_append]
  exact hv b pre post Q hq
set_option maxRecDepth 1000000 in
set_option maxHeartbeats 20000000 in
theorem d16c {u f hd : Int32} (u1 : 0 < u) (u2 : u < 65) (f1 : ¬ f < 0) (f2 : f < 65) : ∀ (n : Nat) (c tl : Int32) (k6 k7 k8 : Slot) (A : Nat → List Int32), LN A → okS k6 → okS k7 → okS k8 → ¬ tl < 0 → tl.toInt ≤ 65 → ¬ c < 0 → c.toInt + n = 256 → ∃ (tl' cc : Int32) (k6' k7' k8' : Slot) (A' : Nat → List Int32), (LN A' ∧ FC A A' ∧ okS k6' ∧ okS k7' ∧ okS k8' ∧ ¬ tl' < 0 ∧ tl'.toInt ≤ 65) ∧ ∀ (b : Nat) (pre post : AHeap) (Q : Option Value → AHeap → Prop), M16 59 [.val (.ref (b + 1)), .val (.int tl'), .val (.int hd), .val (.int u), .val (.int f), .val (.int cc), k6', k7', k8'] [] (put (b + 1) pre s A' post) Q → M16 135 [.val (.ref (b + 1)), .val (.int tl), .val (.int hd), .val (.int u), .val (.int f), .val (.int c), k6, k7, k8] [] (put (b + 1) pre s A post) Q := by
  intro n
  induction n with
  | zero =>
    intro c tl k6 k7 k8 A h o6 o7 o8 t0 t1 h0 e
    have hge : ¬ c < 256 := by rw [lt_i, i_256]; omega
    refine ⟨tl, c, k6, k7, k8, A, ⟨h, FC_r A, o6, o7, o8, t0, t1⟩, fun b pre post Q hq => ?_⟩
    rw [m16_135]
    simp [hge, m16_0, m16_1u, m16_2, m16_3u, m16_5, m16_8, m16_11, m16_12, m16_15, m16_16, m16_17u, m16_17i, m16_17r, m16_17g, m16_18, m16_19, m16_22, m16_23, m16_25, m16_28, m16_29, m16_31, m16_34, m16_35, m16_38, m16_39, m16_40, m16_41, m16_42, m16_45, m16_46, m16_47, m16_48, m16_51, m16_54, m16_57, m16_58i, m16_60, m16_61, m16_64, m16_65, m16_67, m16_70, m16_71, m16_74, m16_75, m16_76u, m16_76i, m16_76r, m16_76g, m16_77, m16_80, m16_81, m16_84, m16_85, m16_87, m16_90, m16_93, m16_94, m16_97, m16_98, m16_99u, m16_99i, m16_99r, m16_99g, m16_101, m16_103, m16_106, m16_108, m16_110, m16_113, m16_114i, m16_116, m16_117, m16_120, m16_121, m16_122, m16_123, m16_124, m16_127, m16_129, m16_130, m16_131, m16_132, m16_133u, m16_133i, m16_133r, m16_133g, m16_137, m16_140, m16_143, m16_144, m16_147, m16_148, m16_150, m16_151u, m16_151i, m16_151r, m16_151g, m16_153, m16_154, m16_157, m16_159, m16_162, m16_163, m16_165, m16_166, m16_167u, m16_167i, m16_167r, m16_167g, m16_169, m16_170, m16_173, m16_175, m16_176u, m16_176i, m16_176r, m16_176g, m16_178, m16_180, m16_183, m16_185, m16_187, m16_190, m16_191, m16_194, m16_196, m16_198, m16_199, m16_200, m16_202, m16_205, m16_206, m16_209, m16_210, m16_212, m16_213, m16_216, m16_219, m16_220, m16_223, m16_225, m16_227, m16_228, m16_231, m16_234, m16_237, nb0, nb1, ou_a, Option.toList_some, Option.toList_none, List.nil_append, List.cons_append]
    exact hq
  | succ n ih =>
    intro c tl k6 k7 k8 A h o6 o7 o8 t0 t1 h0 e
    have hlt : c < 256 := by rw [lt_i, i_256]; omega
    have iu := idx256 (pos_nn u1) u2 h0 hlt
    have jf := idx256 f1 f2 h0 hlt
    have ku := in_lt h z3 iu.1 iu.2
    have kf := in_lt h z3 jf.1 jf.2
    have e1 := add1_i (a := c) (by omega)
    have n1 := succ_nn h0 (by omega)
    by_cases b1 : 0 < getA (A 3) (u * 256 + c)
    · by_cases b2 : getA (A 3) (u * 256 + c) < 65
      · have kv := in_lt h z4 (pos_nn b1) b2
        by_cases b3 : tl < 65
        · have kt := in_lt h z6 t0 b3
          have q := b3
          rw [lt_i, i_65] at q
          obtain ⟨tl', cc, k6', k7', k8', A', ⟨g1, g2, g3⟩, hv⟩ := ih (c + 1) (tl + 1) (.val (.int (u * 256 + c))) (.val (.int (getA (A 3) (f * 256 + c)))) (.val (.int (getA (A 3) (u * 256 + c)))) (ou (ou A 4 (setA (A 4) (getA (A 3) (u * 256 + c)) (getA (A 3) (f * 256 + c)))) 6 (setA (A 6) tl (getA (A 3) (u * 256 + c)))) (by (repeat refine LN_ou ?_ (by simp only [setA_len]; exact h _)); exact h) (okS_i _) (okS_i _) (okS_i _) (succ_nn t0 (by omega)) (by rw [add1_i (by omega)]; omega) n1 (by rw [e1]; omega)
          refine ⟨tl', cc, k6', k7', k8', A', ⟨g1, FC_t (by (repeat refine FC_ou ?_ (by decide) (by decide)); exact FC_r _) g2, g3⟩, fun b pre post Q hq => ?_⟩
          rw [m16_135]
          simp [hlt, ku, kf, o6, o7, o8, b1, b2, b3, kv, kt, m16_0, m16_1u, m16_2, m16_3u, m16_5, m16_8, m16_11, m16_12, m16_15, m16_16, m16_17u, m16_17i, m16_17r, m16_17g, m16_18, m16_19, m16_22, m16_23, m16_25, m16_28, m16_29, m16_31, m16_34, m16_35, m16_38, m16_39, m16_40, m16_41, m16_42, m16_45, m16_46, m16_47, m16_48, m16_51, m16_54, m16_57, m16_58i, m16_60, m16_61, m16_64, m16_65, m16_67, m16_70, m16_71, m16_74, m16_75, m16_76u, m16_76i, m16_76r, m16_76g, m16_77, m16_80, m16_81, m16_84, m16_85, m16_87, m16_90, m16_93, m16_94, m16_97, m16_98, m16_99u, m16_99i, m16_99r, m16_99g, m16_101, m16_103, m16_106, m16_108, m16_110, m16_113, m16_114i, m16_116, m16_117, m16_120, m16_121, m16_122, m16_123, m16_124, m16_127, m16_129, m16_130, m16_131, m16_132, m16_133u, m16_133i, m16_133r, m16_133g, m16_137, m16_140, m16_143, m16_144, m16_147, m16_148, m16_150, m16_151u, m16_151i, m16_151r, m16_151g, m16_153, m16_154, m16_157, m16_159, m16_162, m16_163, m16_165, m16_166, m16_167u, m16_167i, m16_167r, m16_167g, m16_169, m16_170, m16_173, m16_175, m16_176u, m16_176i, m16_176r, m16_176g, m16_178, m16_180, m16_183, m16_185, m16_187, m16_190, m16_191, m16_194, m16_196, m16_198, m16_199, m16_200, m16_202, m16_205, m16_206, m16_209, m16_210, m16_212, m16_213, m16_216, m16_219, m16_220, m16_223, m16_225, m16_227, m16_228, m16_231, m16_234, m16_237, nb0, nb1, ou_a, Option.toList_some, Option.toList_none, List.nil_append, List.cons_append]
          exact hv b pre post Q hq
        · obtain ⟨tl', cc, k6', k7', k8', A', ⟨g1, g2, g3⟩, hv⟩ := ih (c + 1) tl (.val (.int (u * 256 + c))) (.val (.int (getA (A 3) (f * 256 + c)))) (.val (.int (getA (A 3) (u * 256 + c)))) (ou A 4 (setA (A 4) (getA (A 3) (u * 256 + c)) (getA (A 3) (f * 256 + c)))) (by (repeat refine LN_ou ?_ (by simp only [setA_len]; exact h _)); exact h) (okS_i _) (okS_i _) (okS_i _) t0 t1 n1 (by rw [e1]; omega)
          refine ⟨tl', cc, k6', k7', k8', A', ⟨g1, FC_t (by (repeat refine FC_ou ?_ (by decide) (by decide)); exact FC_r _) g2, g3⟩, fun b pre post Q hq => ?_⟩
          rw [m16_135]
          simp [hlt, ku, kf, o6, o7, o8, b1, b2, b3, kv, m16_0, m16_1u, m16_2, m16_3u, m16_5, m16_8, m16_11, m16_12, m16_15, m16_16, m16_17u, m16_17i, m16_17r, m16_17g, m16_18, m16_19, m16_22, m16_23, m16_25, m16_28, m16_29, m16_31, m16_34, m16_35, m16_38, m16_39, m16_40, m16_41, m16_42, m16_45, m16_46, m16_47, m16_48, m16_51, m16_54, m16_57, m16_58i, m16_60, m16_61, m16_64, m16_65, m16_67, m16_70, m16_71, m16_74, m16_75, m16_76u, m16_76i, m16_76r, m16_76g, m16_77, m16_80, m16_81, m16_84, m16_85, m16_87, m16_90, m16_93, m16_94, m16_97, m16_98, m16_99u, m16_99i, m16_99r, m16_99g, m16_101, m16_103, m16_106, m16_108, m16_110, m16_113, m16_114i, m16_116, m16_117, m16_120, m16_121, m16_122, m16_123, m16_124, m16_127, m16_129, m16_130, m16_131, m16_132, m16_133u, m16_133i, m16_133r, m16_133g, m16_137, m16_140, m16_143, m16_144, m16_147, m16_148, m16_150, m16_151u, m16_151i, m16_151r, m16_151g, m16_153, m16_154, m16_157, m16_159, m16_162, m16_163, m16_165, m16_166, m16_167u, m16_167i, m16_167r, m16_167g, m16_169, m16_170, m16_173, m16_175, m16_176u, m16_176i, m16_176r, m16_176g, m16_178, m16_180, m16_183, m16_185, m16_187, m16_190, m16_191, m16_194, m16_196, m16_198, m16_199, m16_200, m16_202, m16_205, m16_206, m16_209, m16_210, m16_212, m16_213, m16_216, m16_219, m16_220, m16_223, m16_225, m16_227, m16_228, m16_231, m16_234, m16_237, nb0, nb1, ou_a, Option.toList_some, Option.toList_none, List.nil_append, List.cons_append]
          exact hv b pre post Q hq
      · obtain ⟨tl', cc, k6', k7', k8', A', ⟨g1, g2, g3⟩, hv⟩ := ih (c + 1) tl (.val (.int (u * 256 + c))) (.val (.int (getA (A 3) (f * 256 + c)))) (.val (.int (getA (A 3) (u * 256 + c)))) (ou A 3 (setA (A 3) (u * 256 + c) (getA (A 3) (f * 256 + c)))) (by (repeat refine LN_ou ?_ (by simp only [setA_len]; exact h _)); exact h) (okS_i _) (okS_i _) (okS_i _) t0 t1 n1 (by rw [e1]; omega)
        refine ⟨tl', cc, k6', k7', k8', A', ⟨g1, FC_t (by (repeat refine FC_ou ?_ (by decide) (by decide)); exact FC_r _) g2, g3⟩, fun b pre post Q hq => ?_⟩
        rw [m16_135]
        simp [hlt, ku, kf, o6, o7, o8, b1, b2, m16_0, m16_1u, m16_2, m16_3u, m16_5, m16_8, m16_11, m16_12, m16_15, m16_16, m16_17u, m16_17i, m16_17r, m16_17g, m16_18, m16_19, m16_22, m16_23, m16_25, m16_28, m16_29, m16_31, m16_34, m16_35, m16_38, m16_39, m16_40, m16_41, m16_42, m16_45, m16_46, m16_47, m16_48, m16_51, m16_54, m16_57, m16_58i, m16_60, m16_61, m16_64, m16_65, m16_67, m16_70, m16_71, m16_74, m16_75, m16_76u, m16_76i, m16_76r, m16_76g, m16_77, m16_80, m16_81, m16_84, m16_85, m16_87, m16_90, m16_93, m16_94, m16_97, m16_98, m16_99u, m16_99i, m16_99r, m16_99g, m16_101, m16_103, m16_106, m16_108, m16_110, m16_113, m16_114i, m16_116, m16_117, m16_120, m16_121, m16_122, m16_123, m16_124, m16_127, m16_129, m16_130, m16_131, m16_132, m16_133u, m16_133i, m16_133r, m16_133g, m16_137, m16_140, m16_143, m16_144, m16_147, m16_148, m16_150, m16_151u, m16_151i, m16_151r, m16_151g, m16_153, m16_154, m16_157, m16_159, m16_162, m16_163, m16_165, m16_166, m16_167u, m16_167i, m16_167r, m16_167g, m16_169, m16_170, m16_173, m16_175, m16_176u, m16_176i, m16_176r, m16_176g, m16_178, m16_180, m16_183, m16_185, m16_187, m16_190, m16_191, m16_194, m16_196, m16_198, m16_199, m16_200, m16_202, m16_205, m16_206, m16_209, m16_210, m16_212, m16_213, m16_216, m16_219, m16_220, m16_223, m16_225, m16_227, m16_228, m16_231, m16_234, m16_237, nb0, nb1, ou_a, Option.toList_some, Option.toList_none, List.nil_append, List.cons_append]
        exact hv b pre post Q hq
    · obtain ⟨tl', cc, k6', k7', k8', A', ⟨g1, g2, g3⟩, hv⟩ := ih (c + 1) tl (.val (.int (u * 256 + c))) (.val (.int (getA (A 3) (f * 256 + c)))) (.val (.int (getA (A 3) (u * 256 + c)))) (ou A 3 (setA (A 3) (u * 256 + c) (getA (A 3) (f * 256 + c)))) (by (repeat refine LN_ou ?_ (by simp only [setA_len]; exact h _)); exact h) (okS_i _) (okS_i _) (okS_i _) t0 t1 n1 (by rw [e1]; omega)
      refine ⟨tl', cc, k6', k7', k8', A', ⟨g1, FC_t (by (repeat refine FC_ou ?_ (by decide) (by decide)); exact FC_r _) g2, g3⟩, fun b pre post Q hq => ?_⟩
      rw [m16_135]
      simp [hlt, ku, kf, o6, o7, o8, b1, m16_0, m16_1u, m16_2, m16_3u, m16_5, m16_8, m16_11, m16_12, m16_15, m16_16, m16_17u, m16_17i, m16_17r, m16_17g, m16_18, m16_19, m16_22, m16_23, m16_25, m16_28, m16_29, m16_31, m16_34, m16_35, m16_38, m16_39, m16_40, m16_41, m16_42, m16_45, m16_46, m16_47, m16_48, m16_51, m16_54, m16_57, m16_58i, m16_60, m16_61, m16_64, m16_65, m16_67, m16_70, m16_71, m16_74, m16_75, m16_76u, m16_76i, m16_76r, m16_76g, m16_77, m16_80, m16_81, m16_84, m16_85, m16_87, m16_90, m16_93, m16_94, m16_97, m16_98, m16_99u, m16_99i, m16_99r, m16_99g, m16_101, m16_103, m16_106, m16_108, m16_110, m16_113, m16_114i, m16_116, m16_117, m16_120, m16_121, m16_122, m16_123, m16_124, m16_127, m16_129, m16_130, m16_131, m16_132, m16_133u, m16_133i, m16_133r, m16_133g, m16_137, m16_140, m16_143, m16_144, m16_147, m16_148, m16_150, m16_151u, m16_151i, m16_151r, m16_151g, m16_153, m16_154, m16_157, m16_159, m16_162, m16_163, m16_165, m16_166, m16_167u, m16_167i, m16_167r, m16_167g, m16_169, m16_170, m16_173, m16_175, m16_176u, m16_176i, m16_176r, m16_176g, m16_178, m16_180, m16_183, m16_185, m16_187, m16_190, m16_191, m16_194, m16_196, m16_198, m16_199, m16_200, m16_202, m16_205, m16_206, m16_209, m16_210, m16_212, m16_213, m16_216, m16_219, m16_220, m16_223, m16_225, m16_227, m16_228, m16_231, m16_234, m16_237, nb0, nb1, ou_a, Option.toList_some, Option.toList_none, List.nil_append, List.cons_append]
      exact hv b pre post Q hq
set_option maxRecDepth 1000000 in
set_option maxHeartbeats 20000000 in
theorem d16b : ∀ (n : Nat) (hd tl : Int32) (k3 k4 k5 k6 k7 k8 : Slot) (A : Nat → List Int32), LN A → okS k3 → okS k4 → okS k5 → okS k6 → okS k7 → okS k8 → ¬ tl < 0 → tl.toInt ≤ 65 → ¬ hd < 0 → hd.toInt + n = 65 → ∃ (A' : Nat → List Int32), (LN A' ∧ FC A A') ∧ ∀ (b : Nat) (pre post : AHeap) (Q : Option Value → AHeap → Prop), Q none (put (b + 1) pre s A' post) → M16 59 [.val (.ref (b + 1)), .val (.int tl), .val (.int hd), k3, k4, k5, k6, k7, k8] [] (put (b + 1) pre s A post) Q := by
  intro n
  induction n with
  | zero =>
    intro hd tl k3 k4 k5 k6 k7 k8 A h o3 o4 o5 o6 o7 o8 t0 t1 h0 e
    have hge : ¬ hd < 65 := by rw [lt_i, i_65]; omega
    refine ⟨A, ⟨h, FC_r A⟩, fun b pre post Q hq => ?_⟩
    rw [m16_59]
    by_cases b1 : hd < tl <;>
    · simp [hge, b1, m16_0, m16_1u, m16_2, m16_3u, m16_5, m16_8, m16_11, m16_12, m16_15, m16_16, m16_17u, m16_17i, m16_17r, m16_17g, m16_18, m16_19, m16_22, m16_23, m16_25, m16_28, m16_29, m16_31, m16_34, m16_35, m16_38, m16_39, m16_40, m16_41, m16_42, m16_45, m16_46, m16_47, m16_48, m16_51, m16_54, m16_57, m16_58i, m16_60, m16_61, m16_64, m16_65, m16_67, m16_70, m16_71, m16_74, m16_75, m16_76u, m16_76i, m16_76r, m16_76g, m16_77, m16_80, m16_81, m16_84, m16_85, m16_87, m16_90, m16_93, m16_94, m16_97, m16_98, m16_99u, m16_99i, m16_99r, m16_99g, m16_101, m16_103, m16_106, m16_108, m16_110, m16_113, m16_114i, m16_116, m16_117, m16_120, m16_121, m16_122, m16_123, m16_124, m16_127, m16_129, m16_130, m16_131, m16_132, m16_133u, m16_133i, m16_133r, m16_133g, m16_137, m16_140, m16_143, m16_144, m16_147, m16_148, m16_150, m16_151u, m16_151i, m16_151r, m16_151g, m16_153, m16_154, m16_157, m16_159, m16_162, m16_163, m16_165, m16_166, m16_167u, m16_167i, m16_167r, m16_167g, m16_169, m16_170, m16_173, m16_175, m16_176u, m16_176i, m16_176r, m16_176g, m16_178, m16_180, m16_183, m16_185, m16_187, m16_190, m16_191, m16_194, m16_196, m16_198, m16_199, m16_200, m16_202, m16_205, m16_206, m16_209, m16_210, m16_212, m16_213, m16_216, m16_219, m16_220, m16_223, m16_225, m16_227, m16_228, m16_231, m16_234, m16_237, nb0, nb1, ou_a, Option.toList_some, Option.toList_none, List.nil_append, List.cons_append]
      exact hq
  | succ n ih =>
    intro hd tl k3 k4 k5 k6 k7 k8 A h o3 o4 o5 o6 o7 o8 t0 t1 h0 e
    have hlt : hd < 65 := by rw [lt_i, i_65]; omega
    have kq := in_lt h z6 h0 hlt
    have e1 := add1_i (a := hd) (by omega)
    have n1 := succ_nn h0 (by omega)
    by_cases b1 : hd < tl
    · by_cases b2 : 0 < getA (A 6) hd
      · by_cases b3 : getA (A 6) hd < 65
        · have ku4 := in_lt h z4 (pos_nn b2) b3
          have ku5 := in_lt h z5 (pos_nn b2) b3
          have zz : inB 0 (A 5) := in_lt h z5 (by decide) (by decide)
          by_cases b4 : getA (A 4) (getA (A 6) hd) < 0
          · obtain ⟨tl', cc, k6', k7', k8', A1, ⟨g1, g2, p6, p7, p8, q0, q1⟩, hv1⟩ := d16c (s := s) (u := (getA (A 6) hd)) (f := 0) (hd := hd + 1) b2 b3 (by decide) (by decide) 256 0 tl k6 k7 k8 (ou A 5 (setA (A 5) (getA (A 6) hd) (getA (A 5) (getA (A 6) hd) ||| getA (A 5) 0))) (by (repeat refine LN_ou ?_ (by simp only [setA_len]; exact h _)); exact h) o6 o7 o8 t0 t1 (by decide) rfl
            obtain ⟨A', ⟨w1, w2⟩, hv⟩ := ih (hd + 1) tl' (.val (.int (getA (A 6) hd))) (.val (.int 0)) (.val (.int cc)) k6' k7' k8' A1 g1 (okS_i _) (okS_i _) (okS_i _) p6 p7 p8 q0 q1 n1 (by rw [e1]; omega)
            refine ⟨A', ⟨w1, FC_t (FC_t (by (repeat refine FC_ou ?_ (by decide) (by decide)); exact FC_r _) g2) w2⟩, fun b pre post Q hq => ?_⟩
            rw [m16_59]
            simp [hlt, b1, b2, b3, b4, zz, kq, ku4, ku5, o3, o4, o5, m16_0, m16_1u, m16_2, m16_3u, m16_5, m16_8, m16_11, m16_12, m16_15, m16_16, m16_17u, m16_17i, m16_17r, m16_17g, m16_18, m16_19, m16_22, m16_23, m16_25, m16_28, m16_29, m16_31, m16_34, m16_35, m16_38, m16_39, m16_40, m16_41, m16_42, m16_45, m16_46, m16_47, m16_48, m16_51, m16_54, m16_57, m16_58i, m16_60, m16_61, m16_64, m16_65, m16_67, m16_70, m16_71, m16_74, m16_75, m16_76u, m16_76i, m16_76r, m16_76g, m16_77, m16_80, m16_81, m16_84, m16_85, m16_87, m16_90, m16_93, m16_94, m16_97, m16_98, m16_99u, m16_99i, m16_99r, m16_99g, m16_101, m16_103, m16_106, m16_108, m16_110, m16_113, m16_114i, m16_116, m16_117, m16_120, m16_121, m16_122, m16_123, m16_124, m16_127, m16_129, m16_130, m16_131, m16_132, m16_133u, m16_133i, m16_133r, m16_133g, m16_137, m16_140, m16_143, m16_144, m16_147, m16_148, m16_150, m16_151u, m16_151i, m16_151r, m16_151g, m16_153, m16_154, m16_157, m16_159, m16_162, m16_163, m16_165, m16_166, m16_167u, m16_167i, m16_167r, m16_167g, m16_169, m16_170, m16_173, m16_175, m16_176u, m16_176i, m16_176r, m16_176g, m16_178, m16_180, m16_183, m16_185, m16_187, m16_190, m16_191, m16_194, m16_196, m16_198, m16_199, m16_200, m16_202, m16_205, m16_206, m16_209, m16_210, m16_212, m16_213, m16_216, m16_219, m16_220, m16_223, m16_225, m16_227, m16_228, m16_231, m16_234, m16_237, nb0, nb1, ou_a, Option.toList_some, Option.toList_none, List.nil_append, List.cons_append]
            exact hv1 b pre post Q (hv b pre post Q hq)
          by_cases b5 : getA (A 4) (getA (A 6) hd) < 65
          · have kf5 := in_lt h z5 b4 b5
            obtain ⟨tl', cc, k6', k7', k8', A1, ⟨g1, g2, p6, p7, p8, q0, q1⟩, hv1⟩ := d16c (s := s) (u := (getA (A 6) hd)) (f := (getA (A 4) (getA (A 6) hd))) (hd := hd + 1) b2 b3 b4 b5 256 0 tl k6 k7 k8 (ou A 5 (setA (A 5) (getA (A 6) hd) (getA (A 5) (getA (A 6) hd) ||| getA (A 5) (getA (A 4) (getA (A 6) hd))))) (by (repeat refine LN_ou ?_ (by simp only [setA_len]; exact h _)); exact h) o6 o7 o8 t0 t1 (by decide) rfl
            obtain ⟨A', ⟨w1, w2⟩, hv⟩ := ih (hd + 1) tl' (.val (.int (getA (A 6) hd))) (.val (.int (getA (A 4) (getA (A 6) hd)))) (.val (.int cc)) k6' k7' k8' A1 g1 (okS_i _) (okS_i _) (okS_i _) p6 p7 p8 q0 q1 n1 (by rw [e1]; omega)
            refine ⟨A', ⟨w1, FC_t (FC_t (by (repeat refine FC_ou ?_ (by decide) (by decide)); exact FC_r _) g2) w2⟩, fun b pre post Q hq => ?_⟩
            rw [m16_59]
            simp [hlt, b1, b2, b3, b4, b5, kf5, kq, ku4, ku5, o3, o4, o5, m16_0, m16_1u, m16_2, m16_3u, m16_5, m16_8, m16_11, m16_12, m16_15, m16_16, m16_17u, m16_17i, m16_17r, m16_17g, m16_18, m16_19, m16_22, m16_23, m16_25, m16_28, m16_29, m16_31, m16_34, m16_35, m16_38, m16_39, m16_40, m16_41, m16_42, m16_45, m16_46, m16_47, m16_48, m16_51, m16_54, m16_57, m16_58i, m16_60, m16_61, m16_64, m16_65, m16_67, m16_70, m16_71, m16_74, m16_75, m16_76u, m16_76i, m16_76r, m16_76g, m16_77, m16_80, m16_81, m16_84, m16_85, m16_87, m16_90, m16_93, m16_94, m16_97, m16_98, m16_99u, m16_99i, m16_99r, m16_99g, m16_101, m16_103, m16_106, m16_108, m16_110, m16_113, m16_114i, m16_116, m16_117, m16_120, m16_121, m16_122, m16_123, m16_124, m16_127, m16_129, m16_130, m16_131, m16_132, m16_133u, m16_133i, m16_133r, m16_133g, m16_137, m16_140, m16_143, m16_144, m16_147, m16_148, m16_150, m16_151u, m16_151i, m16_151r, m16_151g, m16_153, m16_154, m16_157, m16_159, m16_162, m16_163, m16_165, m16_166, m16_167u, m16_167i, m16_167r, m16_167g, m16_169, m16_170, m16_173, m16_175, m16_176u, m16_176i, m16_176r, m16_176g, m16_178, m16_180, m16_183, m16_185, m16_187, m16_190, m16_191, m16_194, m16_196, m16_198, m16_199, m16_200, m16_202, m16_205, m16_206, m16_209, m16_210, m16_212, m16_213, m16_216, m16_219, m16_220, m16_223, m16_225, m16_227, m16_228, m16_231, m16_234, m16_237, nb0, nb1, ou_a, Option.toList_some, Option.toList_none, List.nil_append, List.cons_append]
            exact hv1 b pre post Q (hv b pre post Q hq)
          · obtain ⟨tl', cc, k6', k7', k8', A1, ⟨g1, g2, p6, p7, p8, q0, q1⟩, hv1⟩ := d16c (s := s) (u := (getA (A 6) hd)) (f := 0) (hd := hd + 1) b2 b3 (by decide) (by decide) 256 0 tl k6 k7 k8 (ou A 5 (setA (A 5) (getA (A 6) hd) (getA (A 5) (getA (A 6) hd) ||| getA (A 5) 0))) (by (repeat refine LN_ou ?_ (by simp only [setA_len]; exact h _)); exact h) o6 o7 o8 t0 t1 (by decide) rfl
            obtain ⟨A', ⟨w1, w2⟩, hv⟩ := ih (hd + 1) tl' (.val (.int (getA (A 6) hd))) (.val (.int 0)) (.val (.int cc)) k6' k7' k8' A1 g1 (okS_i _) (okS_i _) (okS_i _) p6 p7 p8 q0 q1 n1 (by rw [e1]; omega)
            refine ⟨A', ⟨w1, FC_t (FC_t (by (repeat refine FC_ou ?_ (by decide) (by decide)); exact FC_r _) g2) w2⟩, fun b pre post Q hq => ?_⟩
            rw [m16_59]
            simp [hlt, b1, b2, b3, b4, b5, zz, kq, ku4, ku5, o3, o4, o5, m16_0, m16_1u, m16_2, m16_3u, m16_5, m16_8, m16_11, m16_12, m16_15, m16_16, m16_17u, m16_17i, m16_17r, m16_17g, m16_18, m16_19, m16_22, m16_23, m16_25, m16_28, m16_29, m16_31, m16_34, m16_35, m16_38, m16_39, m16_40, m16_41, m16_42, m16_45, m16_46, m16_47, m16_48, m16_51, m16_54, m16_57, m16_58i, m16_60, m16_61, m16_64, m16_65, m16_67, m16_70, m16_71, m16_74, m16_75, m16_76u, m16_76i, m16_76r, m16_76g, m16_77, m16_80, m16_81, m16_84, m16_85, m16_87, m16_90, m16_93, m16_94, m16_97, m16_98, m16_99u, m16_99i, m16_99r, m16_99g, m16_101, m16_103, m16_106, m16_108, m16_110, m16_113, m16_114i, m16_116, m16_117, m16_120, m16_121, m16_122, m16_123, m16_124, m16_127, m16_129, m16_130, m16_131, m16_132, m16_133u, m16_133i, m16_133r, m16_133g, m16_137, m16_140, m16_143, m16_144, m16_147, m16_148, m16_150, m16_151u, m16_151i, m16_151r, m16_151g, m16_153, m16_154, m16_157, m16_159, m16_162, m16_163, m16_165, m16_166, m16_167u, m16_167i, m16_167r, m16_167g, m16_169, m16_170, m16_173, m16_175, m16_176u, m16_176i, m16_176r, m16_176g, m16_178, m16_180, m16_183, m16_185, m16_187, m16_190, m16_191, m16_194, m16_196, m16_198, m16_199, m16_200, m16_202, m16_205, m16_206, m16_209, m16_210, m16_212, m16_213, m16_216, m16_219, m16_220, m16_223, m16_225, m16_227, m16_228, m16_231, m16_234, m16_237, nb0, nb1, ou_a, Option.toList_some, Option.toList_none, List.nil_append, List.cons_append]
            exact hv1 b pre post Q (hv b pre post Q hq)
        · obtain ⟨A', g, hv⟩ := ih (hd + 1) tl (.val (.int (getA (A 6) hd))) k4 k5 k6 k7 k8 A h (okS_i _) o4 o5 o6 o7 o8 t0 t1 n1 (by rw [e1]; omega)
          refine ⟨A', g, fun b pre post Q hq => ?_⟩
          rw [m16_59]
          simp [hlt, b1, b2, b3, kq, o3, m16_0, m16_1u, m16_2, m16_3u, m16_5, m16_8, m16_11, m16_12, m16_15, m16_16, m16_17u, m16_17i, m16_17r, m16_17g, m16_18, m16_19, m16_22, m16_23, m16_25, m16_28, m16_29, m16_31, m16_34, m16_35, m16_38, m16_39, m16_40, m16_41, m16_42, m16_45, m16_46, m16_47, m16_48, m16_51, m16_54, m16_57, m16_58i, m16_60, m16_61, m16_64, m16_65, m16_67, m16_70, m16_71, m16_74, m16_75, m16_76u, m16_76i, m16_76r, m16_76g, m16_77, m16_80, m16_81, m16_84, m16_85, m16_87, m16_90, m16_93, m16_94, m16_97, m16_98, m16_99u, m16_99i, m16_99r, m16_99g, m16_101, m16_103, m16_106, m16_108, m16_110, m16_113, m16_114i, m16_116, m16_117, m16_120, m16_121, m16_122, m16_123, m16_124, m16_127, m16_129, m16_130, m16_131, m16_132, m16_133u, m16_133i, m16_133r, m16_133g, m16_137, m16_140, m16_143, m16_144, m16_147, m16_148, m16_150, m16_151u, m16_151i, m16_151r, m16_151g, m16_153, m16_154, m16_157, m16_159, m16_162, m16_163, m16_165, m16_166, m16_167u, m16_167i, m16_167r, m16_167g, m16_169, m16_170, m16_173, m16_175, m16_176u, m16_176i, m16_176r, m16_176g, m16_178, m16_180, m16_183, m16_185, m16_187, m16_190, m16_191, m16_194, m16_196, m16_198, m16_199, m16_200, m16_202, m16_205, m16_206, m16_209, m16_210, m16_212, m16_213, m16_216, m16_219, m16_220, m16_223, m16_225, m16_227, m16_228, m16_231, m16_234, m16_237, nb0, nb1, ou_a, Option.toList_some, Option.toList_none, List.nil_append, List.cons_append]
          exact hv b pre post Q hq
      · obtain ⟨A', g, hv⟩ := ih (hd + 1) tl (.val (.int (getA (A 6) hd))) k4 k5 k6 k7 k8 A h (okS_i _) o4 o5 o6 o7 o8 t0 t1 n1 (by rw [e1]; omega)
        refine ⟨A', g, fun b pre post Q hq => ?_⟩
        rw [m16_59]
        simp [hlt, b1, b2, kq, o3, m16_0, m16_1u, m16_2, m16_3u, m16_5, m16_8, m16_11, m16_12, m16_15, m16_16, m16_17u, m16_17i, m16_17r, m16_17g, m16_18, m16_19, m16_22, m16_23, m16_25, m16_28, m16_29, m16_31, m16_34, m16_35, m16_38, m16_39, m16_40, m16_41, m16_42, m16_45, m16_46, m16_47, m16_48, m16_51, m16_54, m16_57, m16_58i, m16_60, m16_61, m16_64, m16_65, m16_67, m16_70, m16_71, m16_74, m16_75, m16_76u, m16_76i, m16_76r, m16_76g, m16_77, m16_80, m16_81, m16_84, m16_85, m16_87, m16_90, m16_93, m16_94, m16_97, m16_98, m16_99u, m16_99i, m16_99r, m16_99g, m16_101, m16_103, m16_106, m16_108, m16_110, m16_113, m16_114i, m16_116, m16_117, m16_120, m16_121, m16_122, m16_123, m16_124, m16_127, m16_129, m16_130, m16_131, m16_132, m16_133u, m16_133i, m16_133r, m16_133g, m16_137, m16_140, m16_143, m16_144, m16_147, m16_148, m16_150, m16_151u, m16_151i, m16_151r, m16_151g, m16_153, m16_154, m16_157, m16_159, m16_162, m16_163, m16_165, m16_166, m16_167u, m16_167i, m16_167r, m16_167g, m16_169, m16_170, m16_173, m16_175, m16_176u, m16_176i, m16_176r, m16_176g, m16_178, m16_180, m16_183, m16_185, m16_187, m16_190, m16_191, m16_194, m16_196, m16_198, m16_199, m16_200, m16_202, m16_205, m16_206, m16_209, m16_210, m16_212, m16_213, m16_216, m16_219, m16_220, m16_223, m16_225, m16_227, m16_228, m16_231, m16_234, m16_237, nb0, nb1, ou_a, Option.toList_some, Option.toList_none, List.nil_append, List.cons_append]
        exact hv b pre post Q hq
    · refine ⟨A, ⟨h, FC_r A⟩, fun b pre post Q hq => ?_⟩
      rw [m16_59]
      simp [b1, m16_0, m16_1u, m16_2, m16_3u, m16_5, m16_8, m16_11, m16_12, m16_15, m16_16, m16_17u, m16_17i, m16_17r, m16_17g, m16_18, m16_19, m16_22, m16_23, m16_25, m16_28, m16_29, m16_31, m16_34, m16_35, m16_38, m16_39, m16_40, m16_41, m16_42, m16_45, m16_46, m16_47, m16_48, m16_51, m16_54, m16_57, m16_58i, m16_60, m16_61, m16_64, m16_65, m16_67, m16_70, m16_71, m16_74, m16_75, m16_76u, m16_76i, m16_76r, m16_76g, m16_77, m16_80, m16_81, m16_84, m16_85, m16_87, m16_90, m16_93, m16_94, m16_97, m16_98, m16_99u, m16_99i, m16_99r, m16_99g, m16_101, m16_103, m16_106, m16_108, m16_110, m16_113, m16_114i, m16_116, m16_117, m16_120, m16_121, m16_122, m16_123, m16_124, m16_127, m16_129, m16_130, m16_131, m16_132, m16_133u, m16_133i, m16_133r, m16_133g, m16_137, m16_140, m16_143, m16_144, m16_147, m16_148, m16_150, m16_151u, m16_151i, m16_151r, m16_151g, m16_153, m16_154, m16_157, m16_159, m16_162, m16_163, m16_165, m16_166, m16_167u, m16_167i, m16_167r, m16_167g, m16_169, m16_170, m16_173, m16_175, m16_176u, m16_176i, m16_176r, m16_176g, m16_178, m16_180, m16_183, m16_185, m16_187, m16_190, m16_191, m16_194, m16_196, m16_198, m16_199, m16_200, m16_202, m16_205, m16_206, m16_209, m16_210, m16_212, m16_213, m16_216, m16_219, m16_220, m16_223, m16_225, m16_227, m16_228, m16_231, m16_234, m16_237, nb0, nb1, ou_a, Option.toList_some, Option.toList_none, List.nil_append, List.cons_append]
      exact hq
set_option maxRecDepth 1000000 in
set_option maxHeartbeats 20000000 in
theorem d16a : ∀ (n : Nat) (c tl : Int32) (k3 : Slot) (A : Nat → List Int32), LN A → okS k3 → ¬ tl < 0 → tl.toInt ≤ 65 → ¬ c < 0 → c.toInt + n = 256 → ∃ (A' : Nat → List Int32), (LN A' ∧ FC A A') ∧ ∀ (b : Nat) (pre post : AHeap) (Q : Option Value → AHeap → Prop), Q none (put (b + 1) pre s A' post) → M16 4 [.val (.ref (b + 1)), .val (.int tl), .val (.int c), k3, .unset, .unset, .unset, .unset, .unset] [] (put (b + 1) pre s A post) Q := by
  intro n
  induction n with
  | zero =>
    intro c tl k3 A h o3 t0 t1 h0 e
    have hge : ¬ c < 256 := by rw [lt_i, i_256]; omega
    obtain ⟨A', g, hv⟩ := d16b (s := s) 65 0 tl k3 .unset .unset .unset .unset .unset A h o3 okS_u okS_u okS_u okS_u okS_u t0 t1 (by decide) rfl
    refine ⟨A', g, fun b pre post Q hq => ?_⟩
    rw [m16_4]
    simp [hge, m16_0, m16_1u, m16_2, m16_3u, m16_5, m16_8, m16_11, m16_12, m16_15, m16_16, m16_17u, m16_17i, m16_17r, m16_17g, m16_18, m16_19, m16_22, m16_23, m16_25, m16_28, m16_29, m16_31, m16_34, m16_35, m16_38, m16_39, m16_40, m16_41, m16_42, m16_45, m16_46, m16_47, m16_48, m16_51, m16_54, m16_57, m16_58i, m16_60, m16_61, m16_64, m16_65, m16_67, m16_70, m16_71, m16_74, m16_75, m16_76u, m16_76i, m16_76r, m16_76g, m16_77, m16_80, m16_81, m16_84, m16_85, m16_87, m16_90, m16_93, m16_94, m16_97, m16_98, m16_99u, m16_99i, m16_99r, m16_99g, m16_101, m16_103, m16_106, m16_108, m16_110, m16_113, m16_114i, m16_116, m16_117, m16_120, m16_121, m16_122, m16_123, m16_124, m16_127, m16_129, m16_130, m16_131, m16_132, m16_133u, m16_133i, m16_133r, m16_133g, m16_137, m16_140, m16_143, m16_144, m16_147, m16_148, m16_150, m16_151u, m16_151i, m16_151r, m16_151g, m16_153, m16_154, m16_157, m16_159, m16_162, m16_163, m16_165, m16_166, m16_167u, m16_167i, m16_167r, m16_167g, m16_169, m16_170, m16_173, m16_175, m16_176u, m16_176i, m16_176r, m16_176g, m16_178, m16_180, m16_183, m16_185, m16_187, m16_190, m16_191, m16_194, m16_196, m16_198, m16_199, m16_200, m16_202, m16_205, m16_206, m16_209, m16_210, m16_212, m16_213, m16_216, m16_219, m16_220, m16_223, m16_225, m16_227, m16_228, m16_231, m16_234, m16_237, nb0, nb1, ou_a, Option.toList_some, Option.toList_none, List.nil_append, List.cons_append]
    exact hv b pre post Q hq
  | succ n ih =>
    intro c tl k3 A h o3 t0 t1 h0 e
    have hlt : c < 256 := by rw [lt_i, i_256]; omega
    have c2 : c < 16640 := by rw [lt_i, i_16640]; omega
    have kc := in_lt h z3 h0 c2
    have e1 := add1_i (a := c) (by omega)
    have n1 := succ_nn h0 (by omega)
    by_cases b1 : 0 < getA (A 3) c
    · by_cases b2 : getA (A 3) c < 65
      · by_cases b3 : tl < 65
        · have kv := in_lt h z4 (pos_nn b1) b2
          have kt := in_lt h z6 t0 b3
          have q := b3
          rw [lt_i, i_65] at q
          obtain ⟨A', ⟨g1, g2⟩, hv⟩ := ih (c + 1) (tl + 1) (.val (.int (getA (A 3) c))) (ou (ou A 4 (setA (A 4) (getA (A 3) c) 0)) 6 (setA (A 6) tl (getA (A 3) c))) (by (repeat refine LN_ou ?_ (by simp only [setA_len]; exact h _)); exact h) (okS_i _) (succ_nn t0 (by omega)) (by rw [add1_i (by omega)]; omega) n1 (by rw [e1]; omega)
          refine ⟨A', ⟨g1, FC_t (by (repeat refine FC_ou ?_ (by decide) (by decide)); exact FC_r _) g2⟩, fun b pre post Q hq => ?_⟩
          rw [m16_4]
          simp [hlt, kc, o3, b1, b2, b3, kv, kt, m16_0, m16_1u, m16_2, m16_3u, m16_5, m16_8, m16_11, m16_12, m16_15, m16_16, m16_17u, m16_17i, m16_17r, m16_17g, m16_18, m16_19, m16_22, m16_23, m16_25, m16_28, m16_29, m16_31, m16_34, m16_35, m16_38, m16_39, m16_40, m16_41, m16_42, m16_45, m16_46, m16_47, m16_48, m16_51, m16_54, m16_57, m16_58i, m16_60, m16_61, m16_64, m16_65, m16_67, m16_70, m16_71, m16_74, m16_75, m16_76u, m16_76i, m16_76r, m16_76g, m16_77, m16_80, m16_81, m16_84, m16_85, m16_87, m16_90, m16_93, m16_94, m16_97, m16_98, m16_99u, m16_99i, m16_99r, m16_99g, m16_101, m16_103, m16_106, m16_108, m16_110, m16_113, m16_114i, m16_116, m16_117, m16_120, m16_121, m16_122, m16_123, m16_124, m16_127, m16_129, m16_130, m16_131, m16_132, m16_133u, m16_133i, m16_133r, m16_133g, m16_137, m16_140, m16_143, m16_144, m16_147, m16_148, m16_150, m16_151u, m16_151i, m16_151r, m16_151g, m16_153, m16_154, m16_157, m16_159, m16_162, m16_163, m16_165, m16_166, m16_167u, m16_167i, m16_167r, m16_167g, m16_169, m16_170, m16_173, m16_175, m16_176u, m16_176i, m16_176r, m16_176g, m16_178, m16_180, m16_183, m16_185, m16_187, m16_190, m16_191, m16_194, m16_196, m16_198, m16_199, m16_200, m16_202, m16_205, m16_206, m16_209, m16_210, m16_212, m16_213, m16_216, m16_219, m16_220, m16_223, m16_225, m16_227, m16_228, m16_231, m16_234, m16_237, nb0, nb1, ou_a, Option.toList_some, Option.toList_none, List.nil_append, List.cons_append]
          exact hv b pre post Q hq
        · obtain ⟨A', ⟨g1, g2⟩, hv⟩ := ih (c + 1) tl (.val (.int (getA (A 3) c))) A h (okS_i _) t0 t1 n1 (by rw [e1]; omega)
          refine ⟨A', ⟨g1, FC_t (FC_r A) g2⟩, fun b pre post Q hq => ?_⟩
          rw [m16_4]
          simp [hlt, kc, o3, b1, b2, b3, m16_0, m16_1u, m16_2, m16_3u, m16_5, m16_8, m16_11, m16_12, m16_15, m16_16, m16_17u, m16_17i, m16_17r, m16_17g, m16_18, m16_19, m16_22, m16_23, m16_25, m16_28, m16_29, m16_31, m16_34, m16_35, m16_38, m16_39, m16_40, m16_41, m16_42, m16_45, m16_46, m16_47, m16_48, m16_51, m16_54, m16_57, m16_58i, m16_60, m16_61, m16_64, m16_65, m16_67, m16_70, m16_71, m16_74, m16_75, m16_76u, m16_76i, m16_76r, m16_76g, m16_77, m16_80, m16_81, m16_84, m16_85, m16_87, m16_90, m16_93, m16_94, m16_97, m16_98, m16_99u, m16_99i, m16_99r, m16_99g, m16_101, m16_103, m16_106, m16_108, m16_110, m16_113, m16_114i, m16_116, m16_117, m16_120, m16_121, m16_122, m16_123, m16_124, m16_127, m16_129, m16_130, m16_131, m16_132, m16_133u, m16_133i, m16_133r, m16_133g, m16_137, m16_140, m16_143, m16_144, m16_147, m16_148, m16_150, m16_151u, m16_151i, m16_151r, m16_151g, m16_153, m16_154, m16_157, m16_159, m16_162, m16_163, m16_165, m16_166, m16_167u, m16_167i, m16_167r, m16_167g, m16_169, m16_170, m16_173, m16_175, m16_176u, m16_176i, m16_176r, m16_176g, m16_178, m16_180, m16_183, m16_185, m16_187, m16_190, m16_191, m16_194, m16_196, m16_198, m16_199, m16_200, m16_202, m16_205, m16_206, m16_209, m16_210, m16_212, m16_213, m16_216, m16_219, m16_220, m16_223, m16_225, m16_227, m16_228, m16_231, m16_234, m16_237, nb0, nb1, ou_a, Option.toList_some, Option.toList_none, List.nil_append, List.cons_append]
          exact hv b pre post Q hq
      · obtain ⟨A', ⟨g1, g2⟩, hv⟩ := ih (c + 1) tl (.val (.int (getA (A 3) c))) A h (okS_i _) t0 t1 n1 (by rw [e1]; omega)
        refine ⟨A', ⟨g1, FC_t (FC_r A) g2⟩, fun b pre post Q hq => ?_⟩
        rw [m16_4]
        simp [hlt, kc, o3, b1, b2, m16_0, m16_1u, m16_2, m16_3u, m16_5, m16_8, m16_11, m16_12, m16_15, m16_16, m16_17u, m16_17i, m16_17r, m16_17g, m16_18, m16_19, m16_22, m16_23, m16_25, m16_28, m16_29, m16_31, m16_34, m16_35, m16_38, m16_39, m16_40, m16_41, m16_42, m16_45, m16_46, m16_47, m16_48, m16_51, m16_54, m16_57, m16_58i, m16_60, m16_61, m16_64, m16_65, m16_67, m16_70, m16_71, m16_74, m16_75, m16_76u, m16_76i, m16_76r, m16_76g, m16_77, m16_80, m16_81, m16_84, m16_85, m16_87, m16_90, m16_93, m16_94, m16_97, m16_98, m16_99u, m16_99i, m16_99r, m16_99g, m16_101, m16_103, m16_106, m16_108, m16_110, m16_113, m16_114i, m16_116, m16_117, m16_120, m16_121, m16_122, m16_123, m16_124, m16_127, m16_129, m16_130, m16_131, m16_132, m16_133u, m16_133i, m16_133r, m16_133g, m16_137, m16_140, m16_143, m16_144, m16_147, m16_148, m16_150, m16_151u, m16_151i, m16_151r, m16_151g, m16_153, m16_154, m16_157, m16_159, m16_162, m16_163, m16_165, m16_166, m16_167u, m16_167i, m16_167r, m16_167g, m16_169, m16_170, m16_173, m16_175, m16_176u, m16_176i, m16_176r, m16_176g, m16_178, m16_180, m16_183, m16_185, m16_187, m16_190, m16_191, m16_194, m16_196, m16_198, m16_199, m16_200, m16_202, m16_205, m16_206, m16_209, m16_210, m16_212, m16_213, m16_216, m16_219, m16_220, m16_223, m16_225, m16_227, m16_228, m16_231, m16_234, m16_237, nb0, nb1, ou_a, Option.toList_some, Option.toList_none, List.nil_append, List.cons_append]
        exact hv b pre post Q hq
    · obtain ⟨A', ⟨g1, g2⟩, hv⟩ := ih (c + 1) tl (.val (.int (getA (A 3) c))) A h (okS_i _) t0 t1 n1 (by rw [e1]; omega)
      refine ⟨A', ⟨g1, FC_t (FC_r A) g2⟩, fun b pre post Q hq => ?_⟩
      rw [m16_4]
      simp [hlt, kc, o3, b1, m16_0, m16_1u, m16_2, m16_3u, m16_5, m16_8, m16_11, m16_12, m16_15, m16_16, m16_17u, m16_17i, m16_17r, m16_17g, m16_18, m16_19, m16_22, m16_23, m16_25, m16_28, m16_29, m16_31, m16_34, m16_35, m16_38, m16_39, m16_40, m16_41, m16_42, m16_45, m16_46, m16_47, m16_48, m16_51, m16_54, m16_57, m16_58i, m16_60, m16_61, m16_64, m16_65, m16_67, m16_70, m16_71, m16_74, m16_75, m16_76u, m16_76i, m16_76r, m16_76g, m16_77, m16_80, m16_81, m16_84, m16_85, m16_87, m16_90, m16_93, m16_94, m16_97, m16_98, m16_99u, m16_99i, m16_99r, m16_99g, m16_101, m16_103, m16_106, m16_108, m16_110, m16_113, m16_114i, m16_116, m16_117, m16_120, m16_121, m16_122, m16_123, m16_124, m16_127, m16_129, m16_130, m16_131, m16_132, m16_133u, m16_133i, m16_133r, m16_133g, m16_137, m16_140, m16_143, m16_144, m16_147, m16_148, m16_150, m16_151u, m16_151i, m16_151r, m16_151g, m16_153, m16_154, m16_157, m16_159, m16_162, m16_163, m16_165, m16_166, m16_167u, m16_167i, m16_167r, m16_167g, m16_169, m16_170, m16_173, m16_175, m16_176u, m16_176i, m16_176r, m16_176g, m16_178, m16_180, m16_183, m16_185, m16_187, m16_190, m16_191, m16_194, m16_196, m16_198, m16_199, m16_200, m16_202, m16_205, m16_206, m16_209, m16_210, m16_212, m16_213, m16_216, m16_219, m16_220, m16_223, m16_225, m16_227, m16_228, m16_231, m16_234, m16_237, nb0, nb1, ou_a, Option.toList_some, Option.toList_none, List.nil_append, List.cons_append]
      exact hv b pre post Q hq
theorem d16 (h : LN A) : ∃ (A' : Nat → List Int32), (LN A' ∧ FC A A') ∧ ∀ (b : Nat) (pre post : AHeap) (Q : Option Value → AHeap → Prop), Q none (put (b + 1) pre s A' post) → M16 0 [.val (.ref (b + 1)), .unset, .unset, .unset, .unset, .unset, .unset, .unset, .unset] [] (put (b + 1) pre s A post) Q := by
  obtain ⟨A', g, hv⟩ := d16a (s := s) 256 0 0 .unset A h okS_u (by decide) (by decide) (by decide) rfl
  refine ⟨A', g, fun b pre post Q hq => ?_⟩
  simp [m16_0, m16_1u, m16_2, m16_3u, m16_5, m16_8, m16_11, m16_12, m16_15, m16_16, m16_17u, m16_17i, m16_17r, m16_17g, m16_18, m16_19, m16_22, m16_23, m16_25, m16_28, m16_29, m16_31, m16_34, m16_35, m16_38, m16_39, m16_40, m16_41, m16_42, m16_45, m16_46, m16_47, m16_48, m16_51, m16_54, m16_57, m16_58i, m16_60, m16_61, m16_64, m16_65, m16_67, m16_70, m16_71, m16_74, m16_75, m16_76u, m16_76i, m16_76r, m16_76g, m16_77, m16_80, m16_81, m16_84, m16_85, m16_87, m16_90, m16_93, m16_94, m16_97, m16_98, m16_99u, m16_99i, m16_99r, m16_99g, m16_101, m16_103, m16_106, m16_108, m16_110, m16_113, m16_114i, m16_116, m16_117, m16_120, m16_121, m16_122, m16_123, m16_124, m16_127, m16_129, m16_130, m16_131, m16_132, m16_133u, m16_133i, m16_133r, m16_133g, m16_137, m16_140, m16_143, m16_144, m16_147, m16_148, m16_150, m16_151u, m16_151i, m16_151r, m16_151g, m16_153, m16_154, m16_157, m16_159, m16_162, m16_163, m16_165, m16_166, m16_167u, m16_167i, m16_167r, m16_167g, m16_169, m16_170, m16_173, m16_175, m16_176u, m16_176i, m16_176r, m16_176g, m16_178, m16_180, m16_183, m16_185, m16_187, m16_190, m16_191, m16_194, m16_196, m16_198, m16_199, m16_200, m16_202, m16_205, m16_206, m16_209, m16_210, m16_212, m16_213, m16_216, m16_219, m16_220, m16_223, m16_225, m16_227, m16_228, m16_231, m16_234, m16_237, nb0, nb1, ou_a, Option.toList_some, Option.toList_none, List.nil_append, List.cons_append]
  exact hv b pre post Q hq
set_option maxRecDepth 1000000 in
set_option maxHeartbeats 20000000 in
theorem d12 (h : LN A) (a1 : s 1 = 0) (a4 : s 4 = 0) (a2 : ¬ s 2 = 0) : ∃ (s' : Nat → Int32) (A' : Nat → List Int32), (LN A' ∧ FC A A' ∧ s' 1 = 1 ∧ s' 6 = 0 ∧ (∀ i, i ≠ 1 → i ≠ 5 → i ≠ 6 → s' i = s i)) ∧ ∀ (b : Nat) (pre post : AHeap) (Q : Option Value → AHeap → Prop), Q (some (.int 0)) (put (b + 1) pre s' A' post) → M12 0 [.val (.ref (b + 1))] [] (put (b + 1) pre s A post) Q := by
  obtain ⟨s1, A1, ⟨f1, f2, f3⟩, hv1⟩ := d13 (s := s) h
  obtain ⟨A2, ⟨g1, g2⟩, hv2⟩ := d16 (s := s1) f1
  refine ⟨ou (ou s1 6 0) 1 1, A2, ⟨g1, FC_t f2 g2, rfl, rfl, fun i i1 i5 i6 => ?_⟩, fun b pre post Q hq => ?_⟩
  · rw [ou_a, if_neg i1, ou_a, if_neg i6, f3 i i5]
  · simp [a1, a4, a2, m12_0, m12_1, m12_4, m12_7, m12_8, m12_9, m12_10, m12_13, m12_16, m12_17, m12_18, m12_19, m12_22, m12_25, m12_27, m12_28, m12_29, m12_32, m12_33, m12_36, m12_37, m12_38, m12_41, m12_42, m12_43, m12_46, m12_47, nb0, nb1, ou_a, Option.toList_some, Option.toList_none, List.nil_append, List.cons_append]
    refine hv1 b pre post _ ?_
    simp [m12_0, m12_1, m12_4, m12_7, m12_8, m12_9, m12_10, m12_13, m12_16, m12_17, m12_18, m12_19, m12_22, m12_25, m12_27, m12_28, m12_29, m12_32, m12_33, m12_36, m12_37, m12_38, m12_41, m12_42, m12_43, m12_46, m12_47, nb0, nb1, ou_a, Option.toList_some, Option.toList_none, List.nil_append, List.cons_append]
    refine hv2 b pre post _ ?_
    simp [m12_0, m12_1, m12_4, m12_7, m12_8, m12_9, m12_10, m12_13, m12_16, m12_17, m12_18, m12_19, m12_22, m12_25, m12_27, m12_28, m12_29, m12_32, m12_33, m12_36, m12_37, m12_38, m12_41, m12_42, m12_43, m12_46, m12_47, nb0, nb1, ou_a, Option.toList_some, Option.toList_none, List.nil_append, List.cons_append]
    exact hq
end Scan
abbrev S2 := (Nat → Int32) × (Nat → List Int32)
abbrev T3 := Int32 × List Int32 × List Int32
theorem ou_self {α : Type} (s : Nat → α) (k : Nat) : ou s k (s k) = s := by
  funext j
  rw [ou_a]
  split
  · rename_i e; rw [e]
  · rfl
def rmT (sg p : Int32) (t : T3) : T3 := if t.1 < 0 then (t.1 + 1, t.2) else if t.1 < 64 then (t.1 + 1, (setA t.2.1 t.1 sg, setA t.2.2 t.1 p)) else (t.1 + 1, t.2)
def flT (cnt mk p : Int32) : Nat → Int32 → T3 → T3
  | 0, _, t => t
  | n + 1, i, t => if i < cnt then flT cnt mk p n (i + 1) (if (mk >>> (i &&& 31)) &&& 1 = 0 then t else rmT i p t) else t
def fdT (s : Nat → Int32) (A : Nat → List Int32) (p v : Int32) : Int32 × T3 :=
  if s 6 * 256 + v < 0 then (0, (s 16, A 10, A 11)) else if s 6 * 256 + v < 16640 then
    (let nx := if getA (A 3) (s 6 * 256 + v) < 0 then 0 else if getA (A 3) (s 6 * 256 + v) < 65 then getA (A 3) (s 6 * 256 + v) else 0
     if getA (A 5) nx = 0 then (nx, (s 16, A 10, A 11)) else (nx, flT (s 2) (getA (A 5) nx) p 16 0 (s 16, A 10, A 11)))
  else (0, (s 16, A 10, A 11))
def pt (s : Nat → Int32) (A : Nat → List Int32) (t : T3) : S2 := (ou s 16 t.1, ou (ou A 10 t.2.1) 11 t.2.2)
theorem pt_r (s : Nat → Int32) (A : Nat → List Int32) : pt s A (s 16, A 10, A 11) = (s, A) := by
  unfold pt
  rw [ou_self]
  show (s, ou (ou A 10 (A 10)) 11 (A 11)) = (s, A)
  rw [ou_self, ou_self]
theorem pt_t (s : Nat → Int32) (A : Nat → List Int32) (t u : T3) : pt (pt s A t).1 (pt s A t).2 u = pt s A u := by
  unfold pt
  refine Prod.ext (ou_same _ _ _ _) ?_
  funext j
  simp only [ou_a]
  by_cases h1 : j = 11
  · simp [h1]
  · by_cases h2 : j = 10 <;> simp [h1, h2]
def FD (p v : Int32) (x : S2) : S2 := pt (ou x.1 6 (fdT x.1 x.2 p v).1) x.2 (fdT x.1 x.2 p v).2
def ab (o v : Int32) (x : S2) : S2 :=
  if getA (x.2 7) o = 0 then (ou x.1 8 (x.1 8 + 1), ou (ou x.2 7 (setA (x.2 7) o 1)) 8 (setA (x.2 8) o v))
  else if getA (x.2 8) o = v then (ou x.1 10 (x.1 10 + 1), x.2) else (ou (ou x.1 9 (x.1 9 + 1)) 12 o, x.2)
abbrev en (x : S2) : Prop := x.1 7 < 256 ∧ ¬ getA (x.2 7) (x.1 7) = 0
def ad (x : S2) : S2 := FD (x.1 7) (getA (x.2 8) (x.1 7)) (ou (ou x.1 7 (x.1 7 + 1)) 8 (x.1 8 - 1), x.2)
def adv : Nat → S2 → S2
  | 0, x => x
  | n + 1, x => if en x then adv n (ad x) else x
section Run
variable {s : Nat → Int32} {A : Nat → List Int32}
theorem e22 (h : LN A) (sg p : Int32) : ∀ (b : Nat) (pre post : AHeap) (Q : Option Value → AHeap → Prop), Q none (put (b + 1) pre (pt s A (rmT sg p (s 16, A 10, A 11))).1 (pt s A (rmT sg p (s 16, A 10, A 11))).2 post) → M22 0 [.val (.ref (b + 1)), .val (.int sg), .val (.int p)] [] (put (b + 1) pre s A post) Q := by
  intro b pre post Q hq
  unfold rmT pt at hq
  by_cases a1 : s 16 < 0
  · simp only [a1, if_true] at hq
    rw [ou_self, ou_self] at hq
    simp [a1, m22_0, m22_1, m22_4, m22_7, m22_8, m22_11, m22_13, m22_16, m22_17, m22_20, m22_21, m22_24, m22_25, m22_26, m22_27, m22_30, m22_31, m22_34, m22_35, m22_36, m22_37, m22_38, m22_41, m22_42, m22_43, m22_46, nb0, nb1, ou_a, Option.toList_some, Option.toList_none, List.nil_append, List.cons_append]
    exact hq
  by_cases a2 : s 16 < 64
  · simp only [a1, a2, if_true, if_false] at hq
    have k1 := in_lt h z10 a1 a2
    have k2 := in_lt h z11 a1 a2
    simp [a1, a2, k1, k2, m22_0, m22_1, m22_4, m22_7, m22_8, m22_11, m22_13, m22_16, m22_17, m22_20, m22_21, m22_24, m22_25, m22_26, m22_27, m22_30, m22_31, m22_34, m22_35, m22_36, m22_37, m22_38, m22_41, m22_42, m22_43, m22_46, nb0, nb1, ou_a, Option.toList_some, Option.toList_none, List.nil_append, List.cons_append]
    exact hq
  · simp only [a1, a2, if_false] at hq
    rw [ou_self, ou_self] at hq
    simp [a1, a2, m22_0, m22_1, m22_4, m22_7, m22_8, m22_11, m22_13, m22_16, m22_17, m22_20, m22_21, m22_24, m22_25, m22_26, m22_27, m22_30, m22_31, m22_34, m22_35, m22_36, m22_37, m22_38, m22_41, m22_42, m22_43, m22_46, nb0, nb1, ou_a, Option.toList_some, Option.toList_none, List.nil_append, List.cons_append]
    exact hq
theorem rmT_len {sg p : Int32} {t : T3} : (rmT sg p t).2.1.length = t.2.1.length ∧ (rmT sg p t).2.2.length = t.2.2.length := by
  unfold rmT
  split
  · exact ⟨rfl, rfl⟩
  · split
    · exact ⟨setA_len .., setA_len ..⟩
    · exact ⟨rfl, rfl⟩
theorem flT_len {cnt mk p : Int32} : ∀ (n : Nat) (i : Int32) (t : T3), (flT cnt mk p n i t).2.1.length = t.2.1.length ∧ (flT cnt mk p n i t).2.2.length = t.2.2.length := by
  intro n
  induction n with
  | zero => intro i t; exact ⟨rfl, rfl⟩
  | succ n ih =>
    intro i t
    unfold flT
    split
    · have q := ih (i + 1) (if (mk >>> (i &&& 31)) &&& 1 = 0 then t else rmT i p t)
      have r := rmT_len (sg := i) (p := p) (t := t)
      refine ⟨q.1.trans ?_, q.2.trans ?_⟩
      · split
        · rfl
        · exact r.1
      · split
        · rfl
        · exact r.2
    · exact ⟨rfl, rfl⟩
theorem LN_pt {t : T3} (h : LN A) (h1 : t.2.1.length = (A 10).length) (h2 : t.2.2.length = (A 11).length) : LN (pt s A t).2 := LN_ou (LN_ou h (h1.trans (h 10))) (h2.trans (h 11))
theorem fdl (p nx : Int32) : (if getA (A 5) nx = 0 then (nx, (s 16, A 10, A 11)) else (nx, flT (s 2) (getA (A 5) nx) p 16 0 (s 16, A 10, A 11))).2.2.1.length = (A 10).length ∧ (if getA (A 5) nx = 0 then (nx, (s 16, A 10, A 11)) else (nx, flT (s 2) (getA (A 5) nx) p 16 0 (s 16, A 10, A 11))).2.2.2.length = (A 11).length := by
  split
  · exact ⟨rfl, rfl⟩
  · exact flT_len _ _ _
theorem fdT_len {p v : Int32} : (fdT s A p v).2.2.1.length = (A 10).length ∧ (fdT s A p v).2.2.2.length = (A 11).length := by
  unfold fdT
  split
  · exact ⟨rfl, rfl⟩
  · split
    · exact fdl p _
    · exact ⟨rfl, rfl⟩
set_option maxRecDepth 1000000 in
set_option maxHeartbeats 20000000 in
theorem e21a {p v ix nx mk : Int32} : ∀ (n : Nat) (i : Int32) (s : Nat → Int32) (A : Nat → List Int32), LN A → ¬ i < 0 → i.toInt + n = 16 → ∀ (b : Nat) (pre post : AHeap) (Q : Option Value → AHeap → Prop), Q none (put (b + 1) pre (pt s A (flT (s 2) mk p n i (s 16, A 10, A 11))).1 (pt s A (flT (s 2) mk p n i (s 16, A 10, A 11))).2 post) → M21 75 [.val (.ref (b + 1)), .val (.int p), .val (.int v), .val (.int ix), .val (.int nx), .val (.int mk), .val (.int i)] [] (put (b + 1) pre s A post) Q := by
  intro n
  induction n with
  | zero =>
    intro i s A h h0 e b pre post Q hq
    have hge : ¬ i < 16 := by rw [lt_i, i_16]; omega
    have e0 : pt s A (flT (s 2) mk p 0 i (s 16, A 10, A 11)) = (s, A) := pt_r s A
    rw [e0] at hq
    rw [m21_75]
    by_cases c : i < s 2 <;>
    · simp [hge, c, m21_0, m21_1, m21_4, m21_7, m21_8, m21_9, m21_10u, m21_11, m21_12, m21_15, m21_16, m21_19, m21_22, m21_23, m21_24, m21_27, m21_28, m21_29, m21_32, m21_33, m21_34u, m21_36, m21_38, m21_41, m21_43, m21_45, m21_48, m21_49i, m21_51, m21_52, m21_54, m21_57, m21_58, m21_61, m21_63, m21_64u, m21_66, m21_68, m21_71, m21_72, m21_73u, m21_77, m21_78, m21_81, m21_84, m21_86, m21_88, m21_91, m21_93, m21_95, m21_96, m21_97, m21_98, m21_101, m21_102, m21_104, m21_105, m21_108, m21_111, m21_114, nb0, nb1, ou_a, Option.toList_some, Option.toList_none, List.nil_append, List.cons_append]
      exact hq
  | succ n ih =>
    intro i s A h h0 e b pre post Q hq
    have hlt : i < 16 := by rw [lt_i, i_16]; omega
    have n1 := succ_nn h0 (by omega)
    have e1 : (i + 1).toInt + n = 16 := by rw [add1_i (by omega)]; omega
    rw [m21_75]
    by_cases c : i < s 2
    · by_cases d : (mk >>> (i &&& 31)) &&& 1 = 0
      · have e0 : flT (s 2) mk p (n + 1) i (s 16, A 10, A 11) = flT (s 2) mk p n (i + 1) (s 16, A 10, A 11) := by rw [flT, if_pos c, if_pos d]
        rw [e0] at hq
        simp [hlt, c, d, m21_0, m21_1, m21_4, m21_7, m21_8, m21_9, m21_10u, m21_11, m21_12, m21_15, m21_16, m21_19, m21_22, m21_23, m21_24, m21_27, m21_28, m21_29, m21_32, m21_33, m21_34u, m21_36, m21_38, m21_41, m21_43, m21_45, m21_48, m21_49i, m21_51, m21_52, m21_54, m21_57, m21_58, m21_61, m21_63, m21_64u, m21_66, m21_68, m21_71, m21_72, m21_73u, m21_77, m21_78, m21_81, m21_84, m21_86, m21_88, m21_91, m21_93, m21_95, m21_96, m21_97, m21_98, m21_101, m21_102, m21_104, m21_105, m21_108, m21_111, m21_114, nb0, nb1, ou_a, Option.toList_some, Option.toList_none, List.nil_append, List.cons_append]
        exact ih (i + 1) s A h n1 e1 b pre post Q hq
      · have e0 : flT (s 2) mk p (n + 1) i (s 16, A 10, A 11) = flT (s 2) mk p n (i + 1) (rmT i p (s 16, A 10, A 11)) := by rw [flT, if_pos c, if_neg d]
        rw [e0] at hq
        simp [hlt, c, d, m21_0, m21_1, m21_4, m21_7, m21_8, m21_9, m21_10u, m21_11, m21_12, m21_15, m21_16, m21_19, m21_22, m21_23, m21_24, m21_27, m21_28, m21_29, m21_32, m21_33, m21_34u, m21_36, m21_38, m21_41, m21_43, m21_45, m21_48, m21_49i, m21_51, m21_52, m21_54, m21_57, m21_58, m21_61, m21_63, m21_64u, m21_66, m21_68, m21_71, m21_72, m21_73u, m21_77, m21_78, m21_81, m21_84, m21_86, m21_88, m21_91, m21_93, m21_95, m21_96, m21_97, m21_98, m21_101, m21_102, m21_104, m21_105, m21_108, m21_111, m21_114, nb0, nb1, ou_a, Option.toList_some, Option.toList_none, List.nil_append, List.cons_append]
        refine e22 h i p b pre post _ ?_
        simp [m21_0, m21_1, m21_4, m21_7, m21_8, m21_9, m21_10u, m21_11, m21_12, m21_15, m21_16, m21_19, m21_22, m21_23, m21_24, m21_27, m21_28, m21_29, m21_32, m21_33, m21_34u, m21_36, m21_38, m21_41, m21_43, m21_45, m21_48, m21_49i, m21_51, m21_52, m21_54, m21_57, m21_58, m21_61, m21_63, m21_64u, m21_66, m21_68, m21_71, m21_72, m21_73u, m21_77, m21_78, m21_81, m21_84, m21_86, m21_88, m21_91, m21_93, m21_95, m21_96, m21_97, m21_98, m21_101, m21_102, m21_104, m21_105, m21_108, m21_111, m21_114, nb0, nb1, ou_a, Option.toList_some, Option.toList_none, List.nil_append, List.cons_append]
        have r := rmT_len (sg := i) (p := p) (t := (s 16, A 10, A 11))
        refine ih (i + 1) _ _ (LN_pt h r.1 r.2) n1 e1 b pre post Q ?_
        rw [pt_t]
        exact hq
    · have e0 : flT (s 2) mk p (n + 1) i (s 16, A 10, A 11) = (s 16, A 10, A 11) := by rw [flT, if_neg c]
      rw [e0, pt_r] at hq
      simp [c, m21_0, m21_1, m21_4, m21_7, m21_8, m21_9, m21_10u, m21_11, m21_12, m21_15, m21_16, m21_19, m21_22, m21_23, m21_24, m21_27, m21_28, m21_29, m21_32, m21_33, m21_34u, m21_36, m21_38, m21_41, m21_43, m21_45, m21_48, m21_49i, m21_51, m21_52, m21_54, m21_57, m21_58, m21_61, m21_63, m21_64u, m21_66, m21_68, m21_71, m21_72, m21_73u, m21_77, m21_78, m21_81, m21_84, m21_86, m21_88, m21_91, m21_93, m21_95, m21_96, m21_97, m21_98, m21_101, m21_102, m21_104, m21_105, m21_108, m21_111, m21_114, nb0, nb1, ou_a, Option.toList_some, Option.toList_none, List.nil_append, List.cons_append]
      exact hq
set_option maxRecDepth 1000000 in
set_option maxHeartbeats 20000000 in
theorem e21 (h : LN A) (p v : Int32) : ∀ (b : Nat) (pre post : AHeap) (Q : Option Value → AHeap → Prop), Q none (put (b + 1) pre (FD p v (s, A)).1 (FD p v (s, A)).2 post) → M21 0 [.val (.ref (b + 1)), .val (.int p), .val (.int v), .unset, .unset, .unset, .unset] [] (put (b + 1) pre s A post) Q := by
  intro b pre post Q hq
  have z0 : inB 0 (A 5) := in_lt h z5 (by decide) (by decide)
  by_cases a1 : (s 6 * 256 + v) < 0
  · have ef : fdT s A p v = (0, (s 16, A 10, A 11)) := by
      unfold fdT
      simp only [a1, if_true]
    unfold FD at hq
    rw [ef] at hq
    have er := pt_r (ou s 6 0) A
    simp only [ou_a, if_neg (show ¬ 16 = 6 by decide)] at er
    rw [er] at hq
    simp [a1, m21_0, m21_1, m21_4, m21_7, m21_8, m21_9, m21_10u, m21_11, m21_12, m21_15, m21_16, m21_19, m21_22, m21_23, m21_24, m21_27, m21_28, m21_29, m21_32, m21_33, m21_34u, m21_36, m21_38, m21_41, m21_43, m21_45, m21_48, m21_49i, m21_51, m21_52, m21_54, m21_57, m21_58, m21_61, m21_63, m21_64u, m21_66, m21_68, m21_71, m21_72, m21_73u, m21_77, m21_78, m21_81, m21_84, m21_86, m21_88, m21_91, m21_93, m21_95, m21_96, m21_97, m21_98, m21_101, m21_102, m21_104, m21_105, m21_108, m21_111, m21_114, nb0, nb1, ou_a, Option.toList_some, Option.toList_none, List.nil_append, List.cons_append]
    exact hq
  by_cases a2 : (s 6 * 256 + v) < 16640
  · have k3 := in_lt h z3 a1 a2
    by_cases a3 : getA (A 3) (s 6 * 256 + v) < 0
    · by_cases a5 : getA (A 5) 0 = 0
      · have ef : fdT s A p v = (0, (s 16, A 10, A 11)) := by
          unfold fdT
          simp only [a1, a2, a3, a5, if_true, if_false]
        unfold FD at hq
        rw [ef] at hq
        have er := pt_r (ou s 6 0) A
        simp only [ou_a, if_neg (show ¬ 16 = 6 by decide)] at er
        rw [er] at hq
        simp [a1, a2, a3, k3, z0, a5, m21_0, m21_1, m21_4, m21_7, m21_8, m21_9, m21_10u, m21_11, m21_12, m21_15, m21_16, m21_19, m21_22, m21_23, m21_24, m21_27, m21_28, m21_29, m21_32, m21_33, m21_34u, m21_36, m21_38, m21_41, m21_43, m21_45, m21_48, m21_49i, m21_51, m21_52, m21_54, m21_57, m21_58, m21_61, m21_63, m21_64u, m21_66, m21_68, m21_71, m21_72, m21_73u, m21_77, m21_78, m21_81, m21_84, m21_86, m21_88, m21_91, m21_93, m21_95, m21_96, m21_97, m21_98, m21_101, m21_102, m21_104, m21_105, m21_108, m21_111, m21_114, nb0, nb1, ou_a, Option.toList_some, Option.toList_none, List.nil_append, List.cons_append]
        exact hq
      · have ef : fdT s A p v = (0, flT (s 2) (getA (A 5) 0) p 16 0 (s 16, A 10, A 11)) := by
          unfold fdT
          simp only [a1, a2, a3, a5, if_true, if_false]
        unfold FD at hq
        rw [ef] at hq
        simp [a1, a2, a3, k3, z0, a5, m21_0, m21_1, m21_4, m21_7, m21_8, m21_9, m21_10u, m21_11, m21_12, m21_15, m21_16, m21_19, m21_22, m21_23, m21_24, m21_27, m21_28, m21_29, m21_32, m21_33, m21_34u, m21_36, m21_38, m21_41, m21_43, m21_45, m21_48, m21_49i, m21_51, m21_52, m21_54, m21_57, m21_58, m21_61, m21_63, m21_64u, m21_66, m21_68, m21_71, m21_72, m21_73u, m21_77, m21_78, m21_81, m21_84, m21_86, m21_88, m21_91, m21_93, m21_95, m21_96, m21_97, m21_98, m21_101, m21_102, m21_104, m21_105, m21_108, m21_111, m21_114, nb0, nb1, ou_a, Option.toList_some, Option.toList_none, List.nil_append, List.cons_append]
        exact e21a 16 0 (ou s 6 0) A h (by decide) rfl b pre post Q hq
    by_cases a4 : getA (A 3) (s 6 * 256 + v) < 65
    · have k5 := in_lt h z5 a3 a4
      by_cases a5 : getA (A 5) (getA (A 3) (s 6 * 256 + v)) = 0
      · have ef : fdT s A p v = ((getA (A 3) (s 6 * 256 + v)), (s 16, A 10, A 11)) := by
          unfold fdT
          simp only [a1, a2, a3, a4, a5, if_true, if_false]
        unfold FD at hq
        rw [ef] at hq
        have er := pt_r (ou s 6 (getA (A 3) (s 6 * 256 + v))) A
        simp only [ou_a, if_neg (show ¬ 16 = 6 by decide)] at er
        rw [er] at hq
        simp [a1, a2, a3, a4, k3, k5, a5, m21_0, m21_1, m21_4, m21_7, m21_8, m21_9, m21_10u, m21_11, m21_12, m21_15, m21_16, m21_19, m21_22, m21_23, m21_24, m21_27, m21_28, m21_29, m21_32, m21_33, m21_34u, m21_36, m21_38, m21_41, m21_43, m21_45, m21_48, m21_49i, m21_51, m21_52, m21_54, m21_57, m21_58, m21_61, m21_63, m21_64u, m21_66, m21_68, m21_71, m21_72, m21_73u, m21_77, m21_78, m21_81, m21_84, m21_86, m21_88, m21_91, m21_93, m21_95, m21_96, m21_97, m21_98, m21_101, m21_102, m21_104, m21_105, m21_108, m21_111, m21_114, nb0, nb1, ou_a, Option.toList_some, Option.toList_none, List.nil_append, List.cons_append]
        exact hq
      · have ef : fdT s A p v = ((getA (A 3) (s 6 * 256 + v)), flT (s 2) (getA (A 5) (getA (A 3) (s 6 * 256 + v))) p 16 0 (s 16, A 10, A 11)) := by
          unfold fdT
          simp only [a1, a2, a3, a4, a5, if_true, if_false]
        unfold FD at hq
        rw [ef] at hq
        simp [a1, a2, a3, a4, k3, k5, a5, m21_0, m21_1, m21_4, m21_7, m21_8, m21_9, m21_10u, m21_11, m21_12, m21_15, m21_16, m21_19, m21_22, m21_23, m21_24, m21_27, m21_28, m21_29, m21_32, m21_33, m21_34u, m21_36, m21_38, m21_41, m21_43, m21_45, m21_48, m21_49i, m21_51, m21_52, m21_54, m21_57, m21_58, m21_61, m21_63, m21_64u, m21_66, m21_68, m21_71, m21_72, m21_73u, m21_77, m21_78, m21_81, m21_84, m21_86, m21_88, m21_91, m21_93, m21_95, m21_96, m21_97, m21_98, m21_101, m21_102, m21_104, m21_105, m21_108, m21_111, m21_114, nb0, nb1, ou_a, Option.toList_some, Option.toList_none, List.nil_append, List.cons_append]
        exact e21a 16 0 (ou s 6 (getA (A 3) (s 6 * 256 + v))) A h (by decide) rfl b pre post Q hq
    · by_cases a5 : getA (A 5) 0 = 0
      · have ef : fdT s A p v = (0, (s 16, A 10, A 11)) := by
          unfold fdT
          simp only [a1, a2, a3, a4, a5, if_true, if_false]
        unfold FD at hq
        rw [ef] at hq
        have er := pt_r (ou s 6 0) A
        simp only [ou_a, if_neg (show ¬ 16 = 6 by decide)] at er
        rw [er] at hq
        simp [a1, a2, a3, a4, k3, z0, a5, m21_0, m21_1, m21_4, m21_7, m21_8, m21_9, m21_10u, m21_11, m21_12, m21_15, m21_16, m21_19, m21_22, m21_23, m21_24, m21_27, m21_28, m21_29, m21_32, m21_33, m21_34u, m21_36, m21_38, m21_41, m21_43, m21_45, m21_48, m21_49i, m21_51, m21_52, m21_54, m21_57, m21_58, m21_61, m21_63, m21_64u, m21_66, m21_68, m21_71, m21_72, m21_73u, m21_77, m21_78, m21_81, m21_84, m21_86, m21_88, m21_91, m21_93, m21_95, m21_96, m21_97, m21_98, m21_101, m21_102, m21_104, m21_105, m21_108, m21_111, m21_114, nb0, nb1, ou_a, Option.toList_some, Option.toList_none, List.nil_append, List.cons_append]
        exact hq
      · have ef : fdT s A p v = (0, flT (s 2) (getA (A 5) 0) p 16 0 (s 16, A 10, A 11)) := by
          unfold fdT
          simp only [a1, a2, a3, a4, a5, if_true, if_false]
        unfold FD at hq
        rw [ef] at hq
        simp [a1, a2, a3, a4, k3, z0, a5, m21_0, m21_1, m21_4, m21_7, m21_8, m21_9, m21_10u, m21_11, m21_12, m21_15, m21_16, m21_19, m21_22, m21_23, m21_24, m21_27, m21_28, m21_29, m21_32, m21_33, m21_34u, m21_36, m21_38, m21_41, m21_43, m21_45, m21_48, m21_49i, m21_51, m21_52, m21_54, m21_57, m21_58, m21_61, m21_63, m21_64u, m21_66, m21_68, m21_71, m21_72, m21_73u, m21_77, m21_78, m21_81, m21_84, m21_86, m21_88, m21_91, m21_93, m21_95, m21_96, m21_97, m21_98, m21_101, m21_102, m21_104, m21_105, m21_108, m21_111, m21_114, nb0, nb1, ou_a, Option.toList_some, Option.toList_none, List.nil_append, List.cons_append]
        exact e21a 16 0 (ou s 6 0) A h (by decide) rfl b pre post Q hq
  · have ef : fdT s A p v = (0, (s 16, A 10, A 11)) := by
      unfold fdT
      simp only [a1, a2, if_false]
    unfold FD at hq
    rw [ef] at hq
    have er := pt_r (ou s 6 0) A
    simp only [ou_a, if_neg (show ¬ 16 = 6 by decide)] at er
    rw [er] at hq
    simp [a1, a2, m21_0, m21_1, m21_4, m21_7, m21_8, m21_9, m21_10u, m21_11, m21_12, m21_15, m21_16, m21_19, m21_22, m21_23, m21_24, m21_27, m21_28, m21_29, m21_32, m21_33, m21_34u, m21_36, m21_38, m21_41, m21_43, m21_45, m21_48, m21_49i, m21_51, m21_52, m21_54, m21_57, m21_58, m21_61, m21_63, m21_64u, m21_66, m21_68, m21_71, m21_72, m21_73u, m21_77, m21_78, m21_81, m21_84, m21_86, m21_88, m21_91, m21_93, m21_95, m21_96, m21_97, m21_98, m21_101, m21_102, m21_104, m21_105, m21_108, m21_111, m21_114, nb0, nb1, ou_a, Option.toList_some, Option.toList_none, List.nil_append, List.cons_append]
    exact hq
theorem FD_s {p v : Int32} {x : S2} {i : Nat} (h1 : i ≠ 6) (h2 : i ≠ 16) : (FD p v x).1 i = x.1 i := by
  unfold FD pt
  show ou (ou x.1 6 _) 16 _ i = _
  rw [ou_a, if_neg h2, ou_a, if_neg h1]
theorem FD_A {p v : Int32} {x : S2} {j : Nat} (h1 : j ≠ 10) (h2 : j ≠ 11) : (FD p v x).2 j = x.2 j := by
  unfold FD pt
  show ou (ou x.2 10 _) 11 _ j = _
  rw [ou_a, if_neg h2, ou_a, if_neg h1]
theorem LN_FD {p v : Int32} {x : S2} (h : LN x.2) : LN (FD p v x).2 := by
  have q := fdT_len (s := x.1) (A := x.2) (p := p) (v := v)
  exact LN_ou (LN_ou h (q.1.trans (h 10))) (q.2.trans (h 11))
theorem LN_ab {o v : Int32} {x : S2} (h : LN x.2) : LN (ab o v x).2 := by
  unfold ab
  split
  · exact LN_ou (LN_ou h (by simp only [setA_len]; exact h _)) (by simp only [setA_len]; exact h _)
  · split <;> exact h
theorem ab_s {o v : Int32} {x : S2} {i : Nat} (h1 : i ≠ 8) (h2 : i ≠ 9) (h3 : i ≠ 10) (h4 : i ≠ 12) : (ab o v x).1 i = x.1 i := by
  unfold ab
  split
  · show ou x.1 8 _ i = _
    rw [ou_a, if_neg h1]
  · split
    · show ou x.1 10 _ i = _
      rw [ou_a, if_neg h3]
    · show ou (ou x.1 9 _) 12 _ i = _
      rw [ou_a, if_neg h4, ou_a, if_neg h2]
theorem ab_A {o v : Int32} {x : S2} {j : Nat} (h1 : j ≠ 7) (h2 : j ≠ 8) : (ab o v x).2 j = x.2 j := by
  unfold ab
  split
  · show ou (ou x.2 7 _) 8 _ j = _
    rw [ou_a, if_neg h2, ou_a, if_neg h1]
  · split <;> rfl
theorem ad_s {x : S2} {i : Nat} (h1 : i ≠ 6) (h2 : i ≠ 16) (h3 : i ≠ 7) (h4 : i ≠ 8) : (ad x).1 i = x.1 i := by
  unfold ad
  rw [FD_s h1 h2]
  show ou (ou x.1 7 _) 8 _ i = _
  rw [ou_a, if_neg h4, ou_a, if_neg h3]
theorem ad_7 {x : S2} : (ad x).1 7 = x.1 7 + 1 := by
  unfold ad
  rw [FD_s (by decide) (by decide)]
  rfl
theorem ad_8 {x : S2} : (ad x).1 8 = x.1 8 - 1 := by
  unfold ad
  rw [FD_s (by decide) (by decide)]
  rfl
theorem ad_A {x : S2} {j : Nat} (h1 : j ≠ 10) (h2 : j ≠ 11) : (ad x).2 j = x.2 j := by
  unfold ad
  rw [FD_A h1 h2]
theorem LN_ad {x : S2} (h : LN x.2) : LN (ad x).2 := by
  unfold ad
  exact LN_FD h
set_option maxRecDepth 1000000 in
set_option maxHeartbeats 20000000 in
theorem e19 (h : LN A) {o v d : Int32} (o0 : ¬ o < 0) (o1 : o < 256) (hw : o < d + s 0) : ∀ (b : Nat) (pre post : AHeap) (Q : Option Value → AHeap → Prop), Q none (put (b + 1) pre (ab o v (s, A)).1 (ab o v (s, A)).2 post) → M19 0 [.val (.ref (b + 1)), .val (.int o), .val (.int v), .val (.int d)] [] (put (b + 1) pre s A post) Q := by
  intro b pre post Q hq
  have k7 := in_lt h z7 o0 o1
  have k8 := in_lt h z8 o0 o1
  unfold ab at hq
  by_cases a1 : getA (A 7) o = 0
  · simp only [a1, if_true] at hq
    simp [o0, o1, hw, a1, k7, k8, m19_0, m19_1, m19_2, m19_5, m19_8, m19_9, m19_10, m19_13, m19_14, m19_15, m19_18, m19_19, m19_22, m19_23, m19_24, m19_25, m19_28, m19_29, m19_30, m19_33, m19_34, m19_35, m19_38, m19_41, m19_42, m19_43, m19_46, m19_47, m19_48, m19_51, m19_52, m19_53, m19_56, m19_57, m19_58, m19_59, m19_60, m19_63, m19_64, m19_67, m19_68, m19_69, m19_72, m19_73, m19_74, m19_77, m19_78, m19_79, m19_82, m19_83, m19_84, m19_85, m19_86, m19_89, m19_90, m19_91, m19_92, m19_93, m19_94, m19_97, m19_98, m19_99, m19_102, m5_0, m5_1, m5_4, m5_5, m5_8, m5_11, m5_12, m5_15, m5_16, nb0, nb1, ou_a, Option.toList_some, Option.toList_none, List.nil_append, List.cons_append]
    exact hq
  by_cases a2 : getA (A 8) o = v
  · simp only [a1, a2, if_true, if_false] at hq
    simp [o0, o1, a1, eq_true a2, k7, k8, m19_0, m19_1, m19_2, m19_5, m19_8, m19_9, m19_10, m19_13, m19_14, m19_15, m19_18, m19_19, m19_22, m19_23, m19_24, m19_25, m19_28, m19_29, m19_30, m19_33, m19_34, m19_35, m19_38, m19_41, m19_42, m19_43, m19_46, m19_47, m19_48, m19_51, m19_52, m19_53, m19_56, m19_57, m19_58, m19_59, m19_60, m19_63, m19_64, m19_67, m19_68, m19_69, m19_72, m19_73, m19_74, m19_77, m19_78, m19_79, m19_82, m19_83, m19_84, m19_85, m19_86, m19_89, m19_90, m19_91, m19_92, m19_93, m19_94, m19_97, m19_98, m19_99, m19_102, m5_0, m5_1, m5_4, m5_5, m5_8, m5_11, m5_12, m5_15, m5_16, nb0, nb1, ou_a, Option.toList_some, Option.toList_none, List.nil_append, List.cons_append]
    exact hq
  · simp only [a1, a2, if_false] at hq
    simp [o0, o1, a1, a2, k7, k8, m19_0, m19_1, m19_2, m19_5, m19_8, m19_9, m19_10, m19_13, m19_14, m19_15, m19_18, m19_19, m19_22, m19_23, m19_24, m19_25, m19_28, m19_29, m19_30, m19_33, m19_34, m19_35, m19_38, m19_41, m19_42, m19_43, m19_46, m19_47, m19_48, m19_51, m19_52, m19_53, m19_56, m19_57, m19_58, m19_59, m19_60, m19_63, m19_64, m19_67, m19_68, m19_69, m19_72, m19_73, m19_74, m19_77, m19_78, m19_79, m19_82, m19_83, m19_84, m19_85, m19_86, m19_89, m19_90, m19_91, m19_92, m19_93, m19_94, m19_97, m19_98, m19_99, m19_102, m5_0, m5_1, m5_4, m5_5, m5_8, m5_11, m5_12, m5_15, m5_16, nb0, nb1, ou_a, Option.toList_some, Option.toList_none, List.nil_append, List.cons_append]
    exact hq
set_option maxRecDepth 1000000 in
set_option maxHeartbeats 20000000 in
theorem e20a : ∀ (n : Nat) (i : Int32) (k2 k3 : Slot) (s : Nat → Int32) (A : Nat → List Int32), LN A → okS k2 → okS k3 → ¬ i < 0 → i.toInt + n = 256 → 0 ≤ (s 7).toInt → ∀ (b : Nat) (pre post : AHeap) (Q : Option Value → AHeap → Prop), Q none (put (b + 1) pre (adv n (s, A)).1 (adv n (s, A)).2 post) → M20 2 [.val (.ref (b + 1)), .val (.int i), k2, k3] [] (put (b + 1) pre s A post) Q := by
  intro n
  induction n with
  | zero =>
    intro i k2 k3 s A h o2 o3 h0 e s7 b pre post Q hq
    have hge : ¬ i < 256 := by rw [lt_i, i_256]; omega
    rw [m20_2]
    simp [hge, m20_0, m20_1u, m20_3, m20_6, m20_9, m20_10, m20_13, m20_16, m20_19, m20_20, m20_23, m20_24, m20_27, m20_28, m20_31, m20_32, m20_33, m20_36u, m20_36i, m20_36r, m20_36g, m20_37, m20_38, m20_41, m20_42, m20_43u, m20_43i, m20_43r, m20_43g, m20_44, m20_45, m20_46, m20_47, m20_48, m20_51, m20_52, m20_53, m20_56, m20_57, m20_58, m20_61, m20_62, m20_63, m20_64, m20_67, m20_70, m20_73, nb0, nb1, ou_a, Option.toList_some, Option.toList_none, List.nil_append, List.cons_append]
    exact hq
  | succ n ih =>
    intro i k2 k3 s A h o2 o3 h0 e s7 b pre post Q hq
    have hlt : i < 256 := by rw [lt_i, i_256]; omega
    have n1 := succ_nn h0 (by omega)
    have e1 : (i + 1).toInt + n = 256 := by rw [add1_i (by omega)]; omega
    rw [m20_2]
    by_cases c : s 7 < 256
    · have c' := c
      rw [lt_i, i_256] at c'
      have k7 := in_lt h z7 (nn_i.mpr s7) c
      have k8 := in_lt h z8 (nn_i.mpr s7) c
      by_cases d : getA (A 7) (s 7) = 0
      · have e0 : adv (n + 1) (s, A) = (s, A) := by rw [adv, if_neg (fun z => z.2 d)]
        rw [e0] at hq
        simp [hlt, c, d, k7, m20_0, m20_1u, m20_3, m20_6, m20_9, m20_10, m20_13, m20_16, m20_19, m20_20, m20_23, m20_24, m20_27, m20_28, m20_31, m20_32, m20_33, m20_36u, m20_36i, m20_36r, m20_36g, m20_37, m20_38, m20_41, m20_42, m20_43u, m20_43i, m20_43r, m20_43g, m20_44, m20_45, m20_46, m20_47, m20_48, m20_51, m20_52, m20_53, m20_56, m20_57, m20_58, m20_61, m20_62, m20_63, m20_64, m20_67, m20_70, m20_73, nb0, nb1, ou_a, Option.toList_some, Option.toList_none, List.nil_append, List.cons_append]
        exact hq
      · have e0 : adv (n + 1) (s, A) = adv n (ad (s, A)) := by rw [adv, if_pos ⟨c, d⟩]
        rw [e0] at hq
        simp [hlt, c, d, k7, k8, o2, o3, m20_0, m20_1u, m20_3, m20_6, m20_9, m20_10, m20_13, m20_16, m20_19, m20_20, m20_23, m20_24, m20_27, m20_28, m20_31, m20_32, m20_33, m20_36u, m20_36i, m20_36r, m20_36g, m20_37, m20_38, m20_41, m20_42, m20_43u, m20_43i, m20_43r, m20_43g, m20_44, m20_45, m20_46, m20_47, m20_48, m20_51, m20_52, m20_53, m20_56, m20_57, m20_58, m20_61, m20_62, m20_63, m20_64, m20_67, m20_70, m20_73, nb0, nb1, ou_a, Option.toList_some, Option.toList_none, List.nil_append, List.cons_append]
        refine e21 h _ _ b pre post _ ?_
        simp [m20_0, m20_1u, m20_3, m20_6, m20_9, m20_10, m20_13, m20_16, m20_19, m20_20, m20_23, m20_24, m20_27, m20_28, m20_31, m20_32, m20_33, m20_36u, m20_36i, m20_36r, m20_36g, m20_37, m20_38, m20_41, m20_42, m20_43u, m20_43i, m20_43r, m20_43g, m20_44, m20_45, m20_46, m20_47, m20_48, m20_51, m20_52, m20_53, m20_56, m20_57, m20_58, m20_61, m20_62, m20_63, m20_64, m20_67, m20_70, m20_73, nb0, nb1, ou_a, Option.toList_some, Option.toList_none, List.nil_append, List.cons_append]
        have e7 : ((ad (s, A)).1 7).toInt = (s 7).toInt + 1 := by rw [ad_7]; exact add1_i (by show (s 7).toInt < _; omega)
        exact ih (i + 1) _ _ (ad (s, A)).1 (ad (s, A)).2 (LN_ad (x := (s, A)) h) (okS_i _) (okS_i _) n1 e1 (by omega) b pre post Q hq
    · have e0 : adv (n + 1) (s, A) = (s, A) := by rw [adv, if_neg (fun z => c z.1)]
      rw [e0] at hq
      simp [hlt, c, m20_0, m20_1u, m20_3, m20_6, m20_9, m20_10, m20_13, m20_16, m20_19, m20_20, m20_23, m20_24, m20_27, m20_28, m20_31, m20_32, m20_33, m20_36u, m20_36i, m20_36r, m20_36g, m20_37, m20_38, m20_41, m20_42, m20_43u, m20_43i, m20_43r, m20_43g, m20_44, m20_45, m20_46, m20_47, m20_48, m20_51, m20_52, m20_53, m20_56, m20_57, m20_58, m20_61, m20_62, m20_63, m20_64, m20_67, m20_70, m20_73, nb0, nb1, ou_a, Option.toList_some, Option.toList_none, List.nil_append, List.cons_append]
      exact hq
theorem e20 (h : LN A) (s7 : 0 ≤ (s 7).toInt) : ∀ (b : Nat) (pre post : AHeap) (Q : Option Value → AHeap → Prop), Q none (put (b + 1) pre (adv 256 (s, A)).1 (adv 256 (s, A)).2 post) → M20 0 [.val (.ref (b + 1)), .unset, .unset, .unset] [] (put (b + 1) pre s A post) Q := by
  intro b pre post Q hq
  simp [m20_0, m20_1u, m20_3, m20_6, m20_9, m20_10, m20_13, m20_16, m20_19, m20_20, m20_23, m20_24, m20_27, m20_28, m20_31, m20_32, m20_33, m20_36u, m20_36i, m20_36r, m20_36g, m20_37, m20_38, m20_41, m20_42, m20_43u, m20_43i, m20_43r, m20_43g, m20_44, m20_45, m20_46, m20_47, m20_48, m20_51, m20_52, m20_53, m20_56, m20_57, m20_58, m20_61, m20_62, m20_63, m20_64, m20_67, m20_70, m20_73, nb0, nb1, ou_a, Option.toList_some, Option.toList_none, List.nil_append, List.cons_append]
  exact e20a 256 0 .unset .unset s A h okS_u okS_u (by decide) rfl s7 b pre post Q hq
def abN (st : Int32) (g : Int32 → Int32) : Nat → Int32 → S2 → S2
  | 0, _, x => x
  | n + 1, i, x => abN st g n (i + 1) (ab (st + i) (g i) x)
theorem LN_abN {st : Int32} {g : Int32 → Int32} : ∀ (n : Nat) (i : Int32) (x : S2), LN x.2 → LN (abN st g n i x).2 := by
  intro n
  induction n with
  | zero => intro i x h; exact h
  | succ n ih => intro i x h; exact ih (i + 1) _ (LN_ab h)
theorem abN_s {st : Int32} {g : Int32 → Int32} {k : Nat} (h1 : k ≠ 8) (h2 : k ≠ 9) (h3 : k ≠ 10) (h4 : k ≠ 12) : ∀ (n : Nat) (i : Int32) (x : S2), (abN st g n i x).1 k = x.1 k := by
  intro n
  induction n with
  | zero => intro i x; rfl
  | succ n ih => intro i x; exact (ih (i + 1) _).trans (ab_s h1 h2 h3 h4)
theorem abN_A {st : Int32} {g : Int32 → Int32} {j : Nat} (h1 : j ≠ 7) (h2 : j ≠ 8) : ∀ (n : Nat) (i : Int32) (x : S2), (abN st g n i x).2 j = x.2 j := by
  intro n
  induction n with
  | zero => intro i x; rfl
  | succ n ih => intro i x; exact (ih (i + 1) _).trans (ab_A h1 h2)
def cl (x : S2) : S2 := (ou (ou (ou x.1 13 0) 14 (-1)) 15 0, x.2)
set_option maxRecDepth 1000000 in
set_option maxHeartbeats 20000000 in
theorem e18a {d st : Int32} {l9 : List Int32} (hl : l9.length = 16) : ∀ (n : Nat) (i : Int32) (s : Nat → Int32) (A : Nat → List Int32), LN A → s 14 = st → A 9 = l9 → ¬ i < 0 → i.toInt + n = (s 15).toInt → (s 15).toInt ≤ 16 → (∀ t : Int32, i.toInt ≤ t.toInt → t.toInt < (s 15).toInt → ¬ st + t < 0 ∧ st + t < 256 ∧ st + t < d + s 0) → ∀ (b : Nat) (pre post : AHeap) (Q : Option Value → AHeap → Prop), M18 53 [.val (.ref (b + 1)), .val (.int d), .val (.int (s 15))] [] (put (b + 1) pre (abN st (getA l9) n i (s, A)).1 (abN st (getA l9) n i (s, A)).2 post) Q → M18 16 [.val (.ref (b + 1)), .val (.int d), .val (.int i)] [] (put (b + 1) pre s A post) Q := by
  intro n
  induction n with
  | zero =>
    intro i s A h e14 e9 h0 e h16 hw b pre post Q hq
    have hi : i = s 15 := Int32.toInt_inj.mp (by omega)
    rw [m18_16]
    simp [hi, lt_irr, m18_0, m18_1, m18_4, m18_7, m18_8, m18_9, m18_10, m18_13u, m18_14, m18_15u, m18_17, m18_18, m18_21, m18_24, m18_25, m18_27, m18_30, m18_31, m18_32, m18_35, m18_36, m18_37, m18_38, m18_41, m18_42, m18_43, m18_44, m18_47, m18_50, m18_54, m18_55, m18_58, m18_59, m18_60, m18_63, m18_64, m18_65, m18_68, m18_69, m18_72, m18_73, m18_76, m18_77, m18_78, nb0, nb1, ou_a, Option.toList_some, Option.toList_none, List.nil_append, List.cons_append]
    exact hq
  | succ n ih =>
    intro i s A h e14 e9 h0 e h16 hw b pre post Q hq
    have c1 : i < s 15 := by rw [lt_i]; omega
    have c2 : i < 16 := by rw [lt_i, i_16]; omega
    have k9 : inB i l9 := by rw [← e9]; exact in_lt h z9 h0 c2
    have w := hw i (Int.le_refl _) (by omega)
    have ei := add1_i (a := i) (by omega)
    have x15 : (ab (st + i) (getA l9 i) (s, A)).1 15 = s 15 := ab_s (by decide) (by decide) (by decide) (by decide)
    have x14 : (ab (st + i) (getA l9 i) (s, A)).1 14 = s 14 := ab_s (by decide) (by decide) (by decide) (by decide)
    have x0 : (ab (st + i) (getA l9 i) (s, A)).1 0 = s 0 := ab_s (by decide) (by decide) (by decide) (by decide)
    have x9 : (ab (st + i) (getA l9 i) (s, A)).2 9 = A 9 := ab_A (by decide) (by decide)
    rw [m18_16]
    simp [c1, c2, k9, e14, e9, m18_0, m18_1, m18_4, m18_7, m18_8, m18_9, m18_10, m18_13u, m18_14, m18_15u, m18_17, m18_18, m18_21, m18_24, m18_25, m18_27, m18_30, m18_31, m18_32, m18_35, m18_36, m18_37, m18_38, m18_41, m18_42, m18_43, m18_44, m18_47, m18_50, m18_54, m18_55, m18_58, m18_59, m18_60, m18_63, m18_64, m18_65, m18_68, m18_69, m18_72, m18_73, m18_76, m18_77, m18_78, nb0, nb1, ou_a, Option.toList_some, Option.toList_none, List.nil_append, List.cons_append]
    refine e19 h w.1 w.2.1 w.2.2 b pre post _ ?_
    simp [m18_0, m18_1, m18_4, m18_7, m18_8, m18_9, m18_10, m18_13u, m18_14, m18_15u, m18_17, m18_18, m18_21, m18_24, m18_25, m18_27, m18_30, m18_31, m18_32, m18_35, m18_36, m18_37, m18_38, m18_41, m18_42, m18_43, m18_44, m18_47, m18_50, m18_54, m18_55, m18_58, m18_59, m18_60, m18_63, m18_64, m18_65, m18_68, m18_69, m18_72, m18_73, m18_76, m18_77, m18_78, nb0, nb1, ou_a, Option.toList_some, Option.toList_none, List.nil_append, List.cons_append]
    refine ih (i + 1) _ _ (LN_ab (x := (s, A)) h) (x14.trans e14) (x9.trans e9) (succ_nn h0 (by omega)) (by rw [x15, ei]; omega) (by rw [x15]; exact h16) (fun t t0 t1 => ?_) b pre post Q ?_
    · rw [x15] at t1
      rw [x0]
      exact hw t (by omega) t1
    · rw [x15]
      exact hq
set_option maxRecDepth 1000000 in
set_option maxHeartbeats 20000000 in
theorem e18 (h : LN A) {st d : Int32} {l9 : List Int32} {n : Nat} (e13 : ¬ s 13 = 0) (e14 : s 14 = st) (e9 : A 9 = l9) (ed : s 7 = d) (en : (s 15).toInt = n) (h16 : (s 15).toInt ≤ 16) (s7 : 0 ≤ (s 7).toInt) (hw : ∀ t : Int32, 0 ≤ t.toInt → t.toInt < (s 15).toInt → ¬ st + t < 0 ∧ st + t < 256 ∧ st + t < d + s 0) :
    ∀ (b : Nat) (pre post : AHeap) (Q : Option Value → AHeap → Prop), Q (some (.int ((adv 256 (cl (abN st (getA l9) n 0 (s, A)))).1 7 - d))) (put (b + 1) pre (adv 256 (cl (abN st (getA l9) n 0 (s, A)))).1 (adv 256 (cl (abN st (getA l9) n 0 (s, A)))).2 post) → M18 0 [.val (.ref (b + 1)), .unset, .unset] [] (put (b + 1) pre s A post) Q := by
  intro b pre post Q hq
  have hl : l9.length = 16 := by rw [← e9]; exact (h 9).trans A0l_9
  simp [e13, ed, m18_0, m18_1, m18_4, m18_7, m18_8, m18_9, m18_10, m18_13u, m18_14, m18_15u, m18_17, m18_18, m18_21, m18_24, m18_25, m18_27, m18_30, m18_31, m18_32, m18_35, m18_36, m18_37, m18_38, m18_41, m18_42, m18_43, m18_44, m18_47, m18_50, m18_54, m18_55, m18_58, m18_59, m18_60, m18_63, m18_64, m18_65, m18_68, m18_69, m18_72, m18_73, m18_76, m18_77, m18_78, nb0, nb1, ou_a, Option.toList_some, Option.toList_none, List.nil_append, List.cons_append]
  refine e18a hl n 0 s A h e14 e9 (by decide) (by rw [i_0]; omega) h16 (fun t t0 t1 => hw t (by rw [i_0] at t0; exact t0) t1) b pre post Q ?_
  rw [m18_53]
  simp [m18_0, m18_1, m18_4, m18_7, m18_8, m18_9, m18_10, m18_13u, m18_14, m18_15u, m18_17, m18_18, m18_21, m18_24, m18_25, m18_27, m18_30, m18_31, m18_32, m18_35, m18_36, m18_37, m18_38, m18_41, m18_42, m18_43, m18_44, m18_47, m18_50, m18_54, m18_55, m18_58, m18_59, m18_60, m18_63, m18_64, m18_65, m18_68, m18_69, m18_72, m18_73, m18_76, m18_77, m18_78, nb0, nb1, ou_a, Option.toList_some, Option.toList_none, List.nil_append, List.cons_append]
  have x7 : (abN st (getA l9) n 0 (s, A)).1 7 = s 7 := abN_s (by decide) (by decide) (by decide) (by decide) n 0 (s, A)
  refine e20 (s := (cl (abN st (getA l9) n 0 (s, A))).1) (A := (abN st (getA l9) n 0 (s, A)).2) (LN_abN n 0 (s, A) h) (by show 0 ≤ ((abN st (getA l9) n 0 (s, A)).1 7).toInt; rw [x7]; exact s7) b pre post _ ?_
  simp [m18_0, m18_1, m18_4, m18_7, m18_8, m18_9, m18_10, m18_13u, m18_14, m18_15u, m18_17, m18_18, m18_21, m18_24, m18_25, m18_27, m18_30, m18_31, m18_32, m18_35, m18_36, m18_37, m18_38, m18_41, m18_42, m18_43, m18_44, m18_47, m18_50, m18_54, m18_55, m18_58, m18_59, m18_60, m18_63, m18_64, m18_65, m18_68, m18_69, m18_72, m18_73, m18_76, m18_77, m18_78, nb0, nb1, ou_a, Option.toList_some, Option.toList_none, List.nil_append, List.cons_append]
  exact hq
end Run
theorem fdT_cong {s s' : Nat → Int32} {A A' : Nat → List Int32} {p v : Int32} (h2 : s' 2 = s 2) (h6 : s' 6 = s 6) (h16 : s' 16 = s 16) (h3 : A' 3 = A 3) (h5 : A' 5 = A 5) (h10 : A' 10 = A 10) (h11 : A' 11 = A 11) : fdT s' A' p v = fdT s A p v := by
  unfold fdT
  rw [h2, h6, h16, h3, h5, h10, h11]
def AD (x : S2) (r : Int32 × T3) : S2 := (ou (ou (ou (ou x.1 7 (x.1 7 + 1)) 8 (x.1 8 - 1)) 6 r.1) 16 r.2.1, ou (ou x.2 10 r.2.2.1) 11 r.2.2.2)
theorem ad_eq (x : S2) : ad x = AD x (fdT x.1 x.2 (x.1 7) (getA (x.2 8) (x.1 7))) := by
  unfold ad FD AD pt
  rw [fdT_cong (s := x.1) (s' := (ou (ou x.1 7 (x.1 7 + 1)) 8 (x.1 8 - 1))) (A := x.2) (A' := x.2) rfl rfl rfl rfl rfl rfl rfl]
theorem sub_add1 (a : Int32) : a - 1 + 1 = a + 1 - 1 := by
  rw [Int32.sub_add_cancel, Int32.add_sub_cancel]
theorem get_ne {l : List Int32} {o j v : Int32} (h : inB o l) (j0 : 0 ≤ j.toInt) (o0 : 0 ≤ o.toInt) (ne : ¬ j.toInt = o.toInt) : getA (setA l o v) j = getA l j := by
  rw [getA_set h, if_neg (by rw [toNat_eq, toNat_eq]; omega)]
theorem comm {o v : Int32} {x : S2} (h : LN x.2) (o0 : 0 ≤ o.toInt) (o1 : o.toInt < 256) (s7 : 0 ≤ (x.1 7).toInt) (e : en x) : ab o v (ad x) = ad (ab o v x) ∧ en (ab o v x) := by
  have q7 : inB o (x.2 7) := in_lt h z7 (nn_i.mpr o0) (by rw [lt_i, i_256]; exact o1)
  have q8 : inB o (x.2 8) := in_lt h z8 (nn_i.mpr o0) (by rw [lt_i, i_256]; exact o1)
  by_cases a1 : getA (x.2 7) o = 0
  · have ne : ¬ (x.1 7).toInt = o.toInt := fun z => e.2 (by rw [Int32.toInt_inj.mp z]; exact a1)
    have ey : ab o v x = (ou x.1 8 (x.1 8 + 1), ou (ou x.2 7 (setA (x.2 7) o 1)) 8 (setA (x.2 8) o v)) := by
      unfold ab
      rw [if_pos a1]
    have b1 : getA ((ad x).2 7) o = 0 := by rw [ad_A (by decide) (by decide)]; exact a1
    have el : ab o v (ad x) = (ou (ad x).1 8 ((ad x).1 8 + 1), ou (ou (ad x).2 7 (setA ((ad x).2 7) o 1)) 8 (setA ((ad x).2 8) o v)) := by
      unfold ab
      rw [if_pos b1]
    refine ⟨?_, ?_⟩
    · rw [el, ey, ad_8, ad_A (by decide) (by decide), ad_A (by decide) (by decide), ad_eq x, ad_eq (_, _)]
      have ef : fdT (ou x.1 8 (x.1 8 + 1)) (ou (ou x.2 7 (setA (x.2 7) o 1)) 8 (setA (x.2 8) o v)) (x.1 7) (getA (setA (x.2 8) o v) (x.1 7)) = fdT x.1 x.2 (x.1 7) (getA (x.2 8) (x.1 7)) := by
        rw [get_ne q8 s7 o0 ne]
        exact fdT_cong rfl rfl rfl rfl rfl rfl rfl
      have ef' : fdT ((ou x.1 8 (x.1 8 + 1), ou (ou x.2 7 (setA (x.2 7) o 1)) 8 (setA (x.2 8) o v)) : S2).1 ((ou x.1 8 (x.1 8 + 1), ou (ou x.2 7 (setA (x.2 7) o 1)) 8 (setA (x.2 8) o v)) : S2).2 (((ou x.1 8 (x.1 8 + 1), ou (ou x.2 7 (setA (x.2 7) o 1)) 8 (setA (x.2 8) o v)) : S2).1 7) (getA (((ou x.1 8 (x.1 8 + 1), ou (ou x.2 7 (setA (x.2 7) o 1)) 8 (setA (x.2 8) o v)) : S2).2 8) (((ou x.1 8 (x.1 8 + 1), ou (ou x.2 7 (setA (x.2 7) o 1)) 8 (setA (x.2 8) o v)) : S2).1 7)) = fdT x.1 x.2 (x.1 7) (getA (x.2 8) (x.1 7)) := ef
      rw [ef']
      generalize fdT x.1 x.2 (x.1 7) (getA (x.2 8) (x.1 7)) = r
      unfold AD
      refine Prod.ext (funext fun i => ?_) (funext fun i => ?_)
      · simp only [ou_a]
        by_cases i8 : i = 8
        · subst i8
          simp [sub_add1]
        by_cases i16 : i = 16
        · simp [i16]
        by_cases i6 : i = 6
        · simp [i6]
        by_cases i7 : i = 7
        · simp [i7]
        simp [i8, i16, i6, i7]
      · simp only [ou_a]
        by_cases i7 : i = 7
        · simp [i7]
        by_cases i8 : i = 8
        · simp [i8]
        by_cases i10 : i = 10
        · simp [i10]
        by_cases i11 : i = 11
        · simp [i11]
        simp [i7, i8, i10, i11]
    · rw [ey]
      refine ⟨e.1, ?_⟩
      show ¬ getA (setA (x.2 7) o 1) (x.1 7) = 0
      rw [get_ne q7 s7 o0 ne]
      exact e.2
  · have b1 : ¬ getA ((ad x).2 7) o = 0 := by rw [ad_A (by decide) (by decide)]; exact a1
    by_cases a2 : getA (x.2 8) o = v
    · have ey : ab o v x = (ou x.1 10 (x.1 10 + 1), x.2) := by
        unfold ab
        rw [if_neg a1, if_pos a2]
      have el : ab o v (ad x) = (ou (ad x).1 10 ((ad x).1 10 + 1), (ad x).2) := by
        unfold ab
        rw [if_neg b1, if_pos (by rw [ad_A (by decide) (by decide)]; exact a2)]
      refine ⟨?_, by rw [ey]; exact e⟩
      have x10 : (ad x).1 10 = x.1 10 := ad_s (by decide) (by decide) (by decide) (by decide)
      rw [el, ey, x10, ad_eq x, ad_eq (_, _)]
      have ef : fdT ((ou x.1 10 (x.1 10 + 1), x.2) : S2).1 ((ou x.1 10 (x.1 10 + 1), x.2) : S2).2 (((ou x.1 10 (x.1 10 + 1), x.2) : S2).1 7) (getA (((ou x.1 10 (x.1 10 + 1), x.2) : S2).2 8) (((ou x.1 10 (x.1 10 + 1), x.2) : S2).1 7)) = fdT x.1 x.2 (x.1 7) (getA (x.2 8) (x.1 7)) := fdT_cong rfl rfl rfl rfl rfl rfl rfl
      rw [ef]
      generalize fdT x.1 x.2 (x.1 7) (getA (x.2 8) (x.1 7)) = r
      unfold AD
      refine Prod.ext (funext fun i => ?_) rfl
      simp only [ou_a]
      by_cases i8 : i = 8
      · simp [i8]
      by_cases i16 : i = 16
      · simp [i16]
      by_cases i6 : i = 6
      · simp [i6]
      by_cases i7 : i = 7
      · simp [i7]
      by_cases i10 : i = 10
      · simp [i10]
      simp [i8, i16, i6, i7, i10]
    · have ey : ab o v x = (ou (ou x.1 9 (x.1 9 + 1)) 12 o, x.2) := by
        unfold ab
        rw [if_neg a1, if_neg a2]
      have el : ab o v (ad x) = (ou (ou (ad x).1 9 ((ad x).1 9 + 1)) 12 o, (ad x).2) := by
        unfold ab
        rw [if_neg b1, if_neg (by rw [ad_A (by decide) (by decide)]; exact a2)]
      refine ⟨?_, by rw [ey]; exact e⟩
      have x9 : (ad x).1 9 = x.1 9 := ad_s (by decide) (by decide) (by decide) (by decide)
      rw [el, ey, x9, ad_eq x, ad_eq (_, _)]
      have ef : fdT ((ou (ou x.1 9 (x.1 9 + 1)) 12 o, x.2) : S2).1 ((ou (ou x.1 9 (x.1 9 + 1)) 12 o, x.2) : S2).2 (((ou (ou x.1 9 (x.1 9 + 1)) 12 o, x.2) : S2).1 7) (getA (((ou (ou x.1 9 (x.1 9 + 1)) 12 o, x.2) : S2).2 8) (((ou (ou x.1 9 (x.1 9 + 1)) 12 o, x.2) : S2).1 7)) = fdT x.1 x.2 (x.1 7) (getA (x.2 8) (x.1 7)) := fdT_cong rfl rfl rfl rfl rfl rfl rfl
      rw [ef]
      generalize fdT x.1 x.2 (x.1 7) (getA (x.2 8) (x.1 7)) = r
      unfold AD
      refine Prod.ext (funext fun i => ?_) rfl
      simp only [ou_a]
      by_cases i8 : i = 8
      · simp [i8]
      by_cases i16 : i = 16
      · simp [i16]
      by_cases i6 : i = 6
      · simp [i6]
      by_cases i7 : i = 7
      · simp [i7]
      by_cases i9 : i = 9
      · simp [i9]
      by_cases i12 : i = 12
      · simp [i12]
      simp [i8, i16, i6, i7, i9, i12]
theorem adv_y {n : Nat} {x : S2} (e : en x) : adv (n + 1) x = adv n (ad x) := by rw [adv, if_pos e]
theorem adv_n {n : Nat} {x : S2} (e : ¬ en x) : adv n x = x := by
  cases n with
  | zero => rfl
  | succ n => rw [adv, if_neg e]
theorem ad_7i {x : S2} (e : en x) (s7 : 0 ≤ (x.1 7).toInt) : ((ad x).1 7).toInt = (x.1 7).toInt + 1 := by
  have c := e.1
  rw [lt_i, i_256] at c
  rw [ad_7]
  exact add1_i (by omega)
theorem ab_adv {o v : Int32} (o0 : 0 ≤ o.toInt) (o1 : o.toInt < 256) : ∀ (k : Nat) (x : S2), LN x.2 → 0 ≤ (x.1 7).toInt → ∃ k', ab o v (adv k x) = adv k' (ab o v x) := by
  intro k
  induction k with
  | zero => intro x _ _; exact ⟨0, rfl⟩
  | succ k ih =>
    intro x h s7
    by_cases e : en x
    · obtain ⟨k', hk⟩ := ih (ad x) (LN_ad h) (by rw [ad_7i e s7]; omega)
      have c := comm (v := v) h o0 o1 s7 e
      exact ⟨k' + 1, by rw [adv_y e, hk, c.1, adv_y c.2]⟩
    · exact ⟨0, by rw [adv_n e]; rfl⟩
theorem abN_adv {st : Int32} {g : Int32 → Int32} : ∀ (n : Nat) (i : Int32) (k : Nat) (x : S2), LN x.2 → 0 ≤ (x.1 7).toInt → 0 ≤ i.toInt → i.toInt + n ≤ 100 → (∀ t : Int32, i.toInt ≤ t.toInt → t.toInt < i.toInt + n → 0 ≤ (st + t).toInt ∧ (st + t).toInt < 256) → ∃ k', abN st g n i (adv k x) = adv k' (abN st g n i x) := by
  intro n
  induction n with
  | zero => intro i k x _ _ _ _ _; exact ⟨k, rfl⟩
  | succ n ih =>
    intro i k x h s7 i0 i1 hw
    have ei := add1_i (a := i) (by omega)
    have w := hw i (Int.le_refl _) (by omega)
    obtain ⟨k1, h1⟩ := ab_adv (v := g i) w.1 w.2 k x h s7
    have x7 : (ab (st + i) (g i) x).1 7 = x.1 7 := ab_s (by decide) (by decide) (by decide) (by decide)
    obtain ⟨k2, h2⟩ := ih (i + 1) k1 (ab (st + i) (g i) x) (LN_ab h) (by rw [x7]; exact s7) (by omega) (by omega) (fun t t0 t1 => hw t (by omega) (by omega))
    refine ⟨k2, ?_⟩
    show abN st g n (i + 1) (ab (st + i) (g i) (adv k x)) = adv k2 (abN st g n (i + 1) (ab (st + i) (g i) x))
    rw [h1, h2]
theorem adv_fuel : ∀ (n m : Nat) (x : S2), 0 ≤ (x.1 7).toInt → 256 ≤ (x.1 7).toInt + n → 256 ≤ (x.1 7).toInt + m → adv n x = adv m x := by
  intro n
  induction n with
  | zero =>
    intro m x s7 h1 _
    have e : ¬ en x := fun z => by have c := z.1; rw [lt_i, i_256] at c; omega
    rw [adv_n e, adv_n e]
  | succ n ih =>
    intro m x s7 h1 h2
    by_cases e : en x
    · have c := e.1
      rw [lt_i, i_256] at c
      have e7 := ad_7i e s7
      cases m with
      | zero => omega
      | succ m =>
        rw [adv_y e, adv_y e]
        exact ih m (ad x) (by omega) (by omega) (by omega)
    · rw [adv_n e, adv_n e]
theorem adv_adv : ∀ (k : Nat) (x : S2), 0 ≤ (x.1 7).toInt → adv 256 (adv k x) = adv 256 x := by
  intro k
  induction k with
  | zero => intro x _; rfl
  | succ k ih =>
    intro x s7
    by_cases e : en x
    · have e7 := ad_7i e s7
      rw [adv_y e, ih (ad x) (by omega), adv_fuel 256 255 (ad x) (by omega) (by omega) (by omega)]
      exact (adv_y e).symm
    · rw [adv_n e]
theorem adv_bd : ∀ (n : Nat) (x : S2), 0 ≤ (x.1 7).toInt → (x.1 7).toInt ≤ 256 → (x.1 7).toInt ≤ ((adv n x).1 7).toInt ∧ ((adv n x).1 7).toInt ≤ 256 := by
  intro n
  induction n with
  | zero => intro x _ h; exact ⟨Int.le_refl _, h⟩
  | succ n ih =>
    intro x s7 h
    by_cases e : en x
    · have c := e.1
      rw [lt_i, i_256] at c
      have e7 := ad_7i e s7
      have q := ih (ad x) (by omega) (by omega)
      rw [adv_y e]
      omega
    · rw [adv_n e]
      exact ⟨Int.le_refl _, h⟩
theorem LN_adv : ∀ (n : Nat) (x : S2), LN x.2 → LN (adv n x).2 := by
  intro n
  induction n with
  | zero => intro x h; exact h
  | succ n ih =>
    intro x h
    by_cases e : en x
    · rw [adv_y e]; exact ih (ad x) (LN_ad h)
    · rw [adv_n e]; exact h
theorem adv_s {i : Nat} (h1 : i ≠ 6) (h2 : i ≠ 16) (h3 : i ≠ 7) (h4 : i ≠ 8) : ∀ (n : Nat) (x : S2), (adv n x).1 i = x.1 i := by
  intro n
  induction n with
  | zero => intro x; rfl
  | succ n ih =>
    intro x
    by_cases e : en x
    · rw [adv_y e, ih (ad x), ad_s h1 h2 h3 h4]
    · rw [adv_n e]
/-- one piece or two -/
theorem two {st : Int32} {g : Int32 → Int32} {k n : Nat} {c : Int32} {x : S2} (h : LN x.2) (s7 : 0 ≤ (x.1 7).toInt) (hc : c.toInt = k) (hn : k + n ≤ 100) (hw : ∀ t : Int32, 0 ≤ t.toInt → t.toInt < k + n → 0 ≤ (st + t).toInt ∧ (st + t).toInt < 256) : adv 256 (abN st g n c (adv 256 (abN st g k 0 x))) = adv 256 (abN st g n c (abN st g k 0 x)) := by
  have x7 : (abN st g k 0 x).1 7 = x.1 7 := abN_s (by decide) (by decide) (by decide) (by decide) k 0 x
  obtain ⟨k', hk⟩ := abN_adv (st := st) (g := g) n c 256 (abN st g k 0 x) (LN_abN k 0 x h) (by rw [x7]; exact s7) (by omega) (by omega) (fun t t0 t1 => hw t (by omega) (by omega))
  rw [hk]
  apply adv_adv
  rw [abN_s (by decide) (by decide) (by decide) (by decide), x7]
  exact s7
theorem abN_split {st : Int32} {g : Int32 → Int32} : ∀ (k n : Nat) (i c : Int32) (x : S2), 0 ≤ i.toInt → i.toInt + k ≤ 100 → c.toInt = i.toInt + k → abN st g n c (abN st g k i x) = abN st g (k + n) i x := by
  intro k
  induction k with
  | zero =>
    intro n i c x i0 i1 hc
    have e : c = i := Int32.toInt_inj.mp (by omega)
    rw [e, Nat.zero_add]
    rfl
  | succ k ih =>
    intro n i c x i0 i1 hc
    have ei := add1_i (a := i) (by omega)
    rw [Nat.succ_add]
    exact ih n (i + 1) c _ (by omega) (by omega) (by omega)
theorem abN_shift {st c : Int32} {g g' : Int32 → Int32} : ∀ (n : Nat) (i : Int32) (x : S2), 0 ≤ i.toInt → i.toInt + n ≤ 100 → (∀ t : Int32, i.toInt ≤ t.toInt → t.toInt < i.toInt + n → g' t = g (c + t)) → abN (st + c) g' n i x = abN st g n (c + i) x := by
  intro n
  induction n with
  | zero => intro i x _ _ _; rfl
  | succ n ih =>
    intro i x i0 i1 hg
    have ei := add1_i (a := i) (by omega)
    show abN (st + c) g' n (i + 1) (ab (st + c + i) (g' i) x) = abN st g n (c + i + 1) (ab (st + (c + i)) (g (c + i)) x)
    rw [ih (i + 1) _ (by omega) (by omega) (fun t t0 t1 => hg t (by omega) (by omega)), hg i (Int.le_refl _) (by omega), Int32.add_assoc, Int32.add_assoc]
theorem abN_cong {st : Int32} {g g' : Int32 → Int32} : ∀ (n : Nat) (i : Int32) (x : S2), 0 ≤ i.toInt → i.toInt + n ≤ 100 → (∀ t : Int32, i.toInt ≤ t.toInt → t.toInt < i.toInt + n → g' t = g t) → abN st g' n i x = abN st g n i x := by
  intro n
  induction n with
  | zero => intro i x _ _ _; rfl
  | succ n ih =>
    intro i x i0 i1 hg
    have ei := add1_i (a := i) (by omega)
    show abN st g' n (i + 1) (ab (st + i) (g' i) x) = abN st g n (i + 1) (ab (st + i) (g i) x)
    rw [ih (i + 1) _ (by omega) (by omega) (fun t t0 t1 => hg t (by omega) (by omega)), hg i (Int.le_refl _) (by omega)]
/-- what absorbing and delivering never touch -/
def wr (u1 u2 u3 : Int32) (l : List Int32) (x : S2) : S2 := (ou (ou (ou x.1 13 u1) 14 u2) 15 u3, ou x.2 9 l)
theorem ab_wr {o v u1 u2 u3 : Int32} {l : List Int32} {x : S2} : ab o v (wr u1 u2 u3 l x) = wr u1 u2 u3 l (ab o v x) := by
  by_cases a1 : getA (x.2 7) o = 0
  · have e1 : ab o v (wr u1 u2 u3 l x) = (ou (wr u1 u2 u3 l x).1 8 (x.1 8 + 1), ou (ou (wr u1 u2 u3 l x).2 7 (setA (x.2 7) o 1)) 8 (setA (x.2 8) o v)) := by
      unfold ab
      exact if_pos a1
    have e2 : ab o v x = (ou x.1 8 (x.1 8 + 1), ou (ou x.2 7 (setA (x.2 7) o 1)) 8 (setA (x.2 8) o v)) := by
      unfold ab
      exact if_pos a1
    rw [e1, e2]
    unfold wr
    refine Prod.ext (funext fun i => ?_) (funext fun i => ?_)
    · simp only [ou_a]
      by_cases i8 : i = 8
      · simp [i8]
      · simp [i8]
    · simp only [ou_a]
      by_cases i7 : i = 7
      · simp [i7]
      by_cases i8 : i = 8
      · simp [i8]
      simp [i7, i8]
  by_cases a2 : getA (x.2 8) o = v
  · have e1 : ab o v (wr u1 u2 u3 l x) = (ou (wr u1 u2 u3 l x).1 10 (x.1 10 + 1), (wr u1 u2 u3 l x).2) := by
      unfold ab
      exact (if_neg a1).trans (if_pos a2)
    have e2 : ab o v x = (ou x.1 10 (x.1 10 + 1), x.2) := by
      unfold ab
      exact (if_neg a1).trans (if_pos a2)
    rw [e1, e2]
    unfold wr
    refine Prod.ext (funext fun i => ?_) rfl
    simp only [ou_a]
    by_cases i8 : i = 10
    · simp [i8]
    · simp [i8]
  · have e1 : ab o v (wr u1 u2 u3 l x) = (ou (ou (wr u1 u2 u3 l x).1 9 (x.1 9 + 1)) 12 o, (wr u1 u2 u3 l x).2) := by
      unfold ab
      exact (if_neg a1).trans (if_neg a2)
    have e2 : ab o v x = (ou (ou x.1 9 (x.1 9 + 1)) 12 o, x.2) := by
      unfold ab
      exact (if_neg a1).trans (if_neg a2)
    rw [e1, e2]
    unfold wr
    refine Prod.ext (funext fun i => ?_) rfl
    simp only [ou_a]
    by_cases i9 : i = 9
    · simp [i9]
    by_cases i12 : i = 12
    · simp [i12]
    simp [i9, i12]
theorem abN_wr {st u1 u2 u3 : Int32} {l : List Int32} {g : Int32 → Int32} : ∀ (n : Nat) (i : Int32) (x : S2), abN st g n i (wr u1 u2 u3 l x) = wr u1 u2 u3 l (abN st g n i x) := by
  intro n
  induction n with
  | zero => intro i x; rfl
  | succ n ih =>
    intro i x
    show abN st g n (i + 1) (ab (st + i) (g i) (wr u1 u2 u3 l x)) = wr u1 u2 u3 l (abN st g n (i + 1) (ab (st + i) (g i) x))
    rw [ab_wr, ih]
theorem ad_wr {u1 u2 u3 : Int32} {l : List Int32} {x : S2} : ad (wr u1 u2 u3 l x) = wr u1 u2 u3 l (ad x) := by
  rw [ad_eq, ad_eq]
  have ef : fdT (wr u1 u2 u3 l x).1 (wr u1 u2 u3 l x).2 ((wr u1 u2 u3 l x).1 7) (getA ((wr u1 u2 u3 l x).2 8) ((wr u1 u2 u3 l x).1 7)) = fdT x.1 x.2 (x.1 7) (getA (x.2 8) (x.1 7)) := fdT_cong rfl rfl rfl rfl rfl rfl rfl
  rw [ef]
  generalize fdT x.1 x.2 (x.1 7) (getA (x.2 8) (x.1 7)) = r
  unfold AD wr
  refine Prod.ext (funext fun i => ?_) (funext fun i => ?_)
  · simp only [ou_a]
    by_cases i8 : i = 8
    · simp [i8]
    by_cases i16 : i = 16
    · simp [i16]
    by_cases i6 : i = 6
    · simp [i6]
    by_cases i7 : i = 7
    · simp [i7]
    simp [i8, i16, i6, i7]
  · simp only [ou_a]
    by_cases i10 : i = 10
    · simp [i10]
    by_cases i11 : i = 11
    · simp [i11]
    simp [i10, i11]
theorem adv_wr {u1 u2 u3 : Int32} {l : List Int32} : ∀ (n : Nat) (x : S2), adv n (wr u1 u2 u3 l x) = wr u1 u2 u3 l (adv n x) := by
  intro n
  induction n with
  | zero => intro x; rfl
  | succ n ih =>
    intro x
    by_cases e : en x
    · have e' : en (wr u1 u2 u3 l x) := e
      rw [adv_y e', adv_y e, ad_wr, ih]
    · have e' : ¬ en (wr u1 u2 u3 l x) := e
      rw [adv_n e', adv_n e]
theorem cl_wr {u1 u2 u3 : Int32} {l : List Int32} {x : S2} : cl (wr u1 u2 u3 l x) = wr 0 (-1) 0 l x := by
  unfold cl wr
  refine Prod.ext (funext fun i => ?_) rfl
  simp only [ou_a]
  by_cases i13 : i = 13
  · simp [i13]
  by_cases i14 : i = 14
  · simp [i14]
  by_cases i15 : i = 15
  · simp [i15]
  simp [i13, i14, i15]
theorem wr_wr {u1 u2 u3 w1 w2 w3 : Int32} {l m : List Int32} {x : S2} : wr w1 w2 w3 m (wr u1 u2 u3 l x) = wr w1 w2 w3 m x := by
  unfold wr
  refine Prod.ext (funext fun i => ?_) (funext fun i => ?_)
  · simp only [ou_a]
    by_cases i13 : i = 13
    · simp [i13]
    by_cases i14 : i = 14
    · simp [i14]
    by_cases i15 : i = 15
    · simp [i15]
    simp [i13, i14, i15]
  · simp only [ou_a]
    by_cases i9 : i = 9
    · simp [i9]
    simp [i9]
theorem wr_id {x : S2} {l : List Int32} (h13 : x.1 13 = 0) (h14 : x.1 14 = -1) (h15 : x.1 15 = 0) (h9 : x.2 9 = l) : wr 0 (-1) 0 l x = x := by
  unfold wr
  rw [← h9]
  refine Prod.ext (funext fun i => ?_) (ou_self _ _)
  simp only [ou_a]
  by_cases i15 : i = 15
  · simp [i15, h15]
  by_cases i14 : i = 14
  · simp [i14, h14]
  by_cases i13 : i = 13
  · simp [i13, h13]
  simp [i13, i14, i15]
section Run2
variable {s : Nat → Int32} {A : Nat → List Int32}
theorem o2a {st : Int32} (h1 : s 1 = 0) : ∀ (b : Nat) (pre post : AHeap) (Q : Option Value → AHeap → Prop), Q (some (.int (-1))) (put (b + 1) pre s A post) → M2 0 [.val (.ref (b + 1)), .val (.int st)] [] (put (b + 1) pre s A post) Q := by
  intro b pre post Q hq
  simp [h1, m2_0, m2_1, m2_4, m2_7, m2_8, m2_9, m2_10, m2_13, m2_16, m2_17, m2_18, m2_19, m2_20, m2_23, m2_26, m2_28, m2_29, m2_30, m2_31, m2_34, m2_35, m2_36, m2_39, m2_40, m2_41, m2_44, m2_45, nb0, nb1, ou_a, Option.toList_some, Option.toList_none, List.nil_append, List.cons_append]
  exact hq
theorem o2b {st : Int32} (h1 : ¬ s 1 = 0) (h13 : s 13 = 0) (hb : st < 0 ∨ ¬ st < 256) : ∀ (b : Nat) (pre post : AHeap) (Q : Option Value → AHeap → Prop), Q (some (.int (-5))) (put (b + 1) pre s A post) → M2 0 [.val (.ref (b + 1)), .val (.int st)] [] (put (b + 1) pre s A post) Q := by
  intro b pre post Q hq
  by_cases c : st < 0
  · simp [h1, h13, c, m2_0, m2_1, m2_4, m2_7, m2_8, m2_9, m2_10, m2_13, m2_16, m2_17, m2_18, m2_19, m2_20, m2_23, m2_26, m2_28, m2_29, m2_30, m2_31, m2_34, m2_35, m2_36, m2_39, m2_40, m2_41, m2_44, m2_45, m5_0, m5_1, m5_4, m5_5, m5_8, m5_11, m5_12, m5_15, m5_16, nb0, nb1, ou_a, Option.toList_some, Option.toList_none, List.nil_append, List.cons_append]
    exact hq
  · have d : ¬ st < 256 := by
      rcases hb with z | z
      · exact absurd z c
      · exact z
    simp [h1, h13, c, d, m2_0, m2_1, m2_4, m2_7, m2_8, m2_9, m2_10, m2_13, m2_16, m2_17, m2_18, m2_19, m2_20, m2_23, m2_26, m2_28, m2_29, m2_30, m2_31, m2_34, m2_35, m2_36, m2_39, m2_40, m2_41, m2_44, m2_45, m5_0, m5_1, m5_4, m5_5, m5_8, m5_11, m5_12, m5_15, m5_16, nb0, nb1, ou_a, Option.toList_some, Option.toList_none, List.nil_append, List.cons_append]
    exact hq
theorem o2c {st : Int32} (h1 : ¬ s 1 = 0) (h13 : s 13 = 0) (c : ¬ st < 0) (d : st < 256) : ∀ (b : Nat) (pre post : AHeap) (Q : Option Value → AHeap → Prop), Q (some (.int 0)) (put (b + 1) pre (ou (ou (ou s 13 1) 14 st) 15 0) A post) → M2 0 [.val (.ref (b + 1)), .val (.int st)] [] (put (b + 1) pre s A post) Q := by
  intro b pre post Q hq
  simp [h1, h13, c, d, m2_0, m2_1, m2_4, m2_7, m2_8, m2_9, m2_10, m2_13, m2_16, m2_17, m2_18, m2_19, m2_20, m2_23, m2_26, m2_28, m2_29, m2_30, m2_31, m2_34, m2_35, m2_36, m2_39, m2_40, m2_41, m2_44, m2_45, m5_0, m5_1, m5_4, m5_5, m5_8, m5_11, m5_12, m5_15, m5_16, nb0, nb1, ou_a, Option.toList_some, Option.toList_none, List.nil_append, List.cons_append]
  exact hq
set_option maxRecDepth 1000000 in
set_option maxHeartbeats 20000000 in
theorem o17 (h : LN A) {v : Int32} (h13 : ¬ s 13 = 0) (v0 : ¬ v < 0) (v1 : ¬ 255 < v) (c1 : s 15 < 16) (c2 : s 14 + s 15 < 256) (c3 : ¬ s 15 < 0) : ∀ (b : Nat) (pre post : AHeap) (Q : Option Value → AHeap → Prop), Q (some (.int 0)) (put (b + 1) pre (ou s 15 (s 15 + 1)) (ou A 9 (setA (A 9) (s 15) v)) post) → M17 0 [.val (.ref (b + 1)), .val (.int v)] [] (put (b + 1) pre s A post) Q := by
  intro b pre post Q hq
  have k9 := in_lt h z9 c3 c1
  simp [h13, v0, v1, c1, c2, c3, k9, m17_0, m17_1, m17_4, m17_7, m17_8, m17_9, m17_10, m17_11, m17_14, m17_17, m17_19, m17_20, m17_21, m17_24, m17_26, m17_29, m17_31, m17_32, m17_33, m17_36, m17_37, m17_40, m17_41, m17_44, m17_47, m17_49, m17_50, m17_51, m17_54, m17_57, m17_59, m17_60, m17_61, m17_64, m17_65, m17_68, m17_69, m17_70, m17_71, m17_72, m17_75, m17_76, m17_77, m17_80, m17_81, m11_0, m11_1, m11_4, m11_5, m11_8, m11_11, m11_12, m11_15, m11_16, nb0, nb1, ou_a, Option.toList_some, Option.toList_none, List.nil_append, List.cons_append]
  exact hq
def bt (sd j : Int32) : Int32 := (sd >>> ((2 * j) &&& 31)) &&& 3
theorem bt_bd (sd j : Int32) : ¬ bt sd j < 0 ∧ ¬ 255 < bt sd j := by
  have b := and_bd (sd >>> ((2 * j) &&& 31)) 3 (by decide)
  have c : ((sd >>> ((2 * j) &&& 31)) &&& 3).toInt ≤ 3 := b.2
  unfold bt
  exact ⟨nn_i.mpr b.1, by rw [lt_i, i_255]; omega⟩
set_option maxRecDepth 1000000 in
set_option maxHeartbeats 20000000 in
theorem o24a {sd fm to : Int32} (f0 : 0 ≤ fm.toInt) (ft : fm.toInt ≤ to.toInt) (t16 : to.toInt - fm.toInt ≤ 16) (to1 : to.toInt ≤ 100) : ∀ (n : Nat) (j : Int32) (k5 : Slot) (s : Nat → Int32) (A : Nat → List Int32), LN A → okS k5 → fm.toInt ≤ j.toInt → j.toInt + n = to.toInt → ¬ s 13 = 0 → (s 15).toInt = j.toInt - fm.toInt → 0 ≤ (s 14).toInt → (s 14).toInt + (to.toInt - fm.toInt) ≤ 256 → (∀ t : Int32, 0 ≤ t.toInt → t.toInt < (s 15).toInt → getA (A 9) t = bt sd (fm + t)) → ∃ l' : List Int32, (l'.length = 16 ∧ ∀ t : Int32, 0 ≤ t.toInt → t.toInt < to.toInt - fm.toInt → getA l' t = bt sd (fm + t)) ∧ ∀ (b : Nat) (pre post : AHeap) (Q : Option Value → AHeap → Prop), Q (some (.int 1)) (put (b + 1) pre (ou s 15 (to - fm)) (ou A 9 l') post) → M24 3 [.val (.ref (b + 1)), .val (.int sd), .val (.int fm), .val (.int to), .val (.int j), k5] [] (put (b + 1) pre s A post) Q := by
  intro n
  have etf : (to - fm).toInt = to.toInt - fm.toInt := sub_i (by omega) (by omega)
  induction n with
  | zero =>
    intro j k5 s A h o5 j0 e h13 e15 p14 q14 hg
    have hge : ¬ j < to := by rw [lt_i]; omega
    have es : s 15 = to - fm := Int32.toInt_inj.mp (by omega)
    refine ⟨A 9, ⟨(h 9).trans A0l_9, fun t t0 t1 => hg t t0 (by omega)⟩, fun b pre post Q hq => ?_⟩
    rw [← es, ou_self, ou_self] at hq
    rw [m24_3]
    simp [hge, m24_0, m24_1u, m24_5, m24_6, m24_9, m24_10, m24_11, m24_12, m24_14, m24_15, m24_16, m24_17, m24_18, m24_21u, m24_21i, m24_21r, m24_21g, m24_23, m24_25, m24_28, m24_29, m24_30, m24_33, m24_36, m24_37, nb0, nb1, ou_a, Option.toList_some, Option.toList_none, List.nil_append, List.cons_append]
    exact hq
  | succ n ih =>
    intro j k5 s A h o5 j0 e h13 e15 p14 q14 hg
    have hlt : j < to := by rw [lt_i]; omega
    have ej := add1_i (a := j) (by omega)
    have es := add1_i (a := s 15) (by omega)
    have bb := bt_bd sd j
    have c1 : s 15 < 16 := by rw [lt_i, i_16]; omega
    have ea : (s 14 + s 15).toInt = (s 14).toInt + (s 15).toInt := add_i (by omega) (by omega)
    have c2 : s 14 + s 15 < 256 := by rw [lt_i, ea, i_256]; omega
    have c3 : ¬ s 15 < 0 := by rw [nn_i]; omega
    have k9 := in_lt h z9 c3 c1
    obtain ⟨l', ⟨g1, g2⟩, hv⟩ := ih (j + 1) (.val (.int 0)) (ou s 15 (s 15 + 1)) (ou A 9 (setA (A 9) (s 15) (bt sd j))) (by (repeat refine LN_ou ?_ (by simp only [setA_len]; exact h _)); exact h) (okS_i _) (by omega) (by omega) h13 (by show (s 15 + 1).toInt = _; omega) p14 q14 (fun t t0 t1 => by
      have t1' : t.toInt < (s 15 + 1).toInt := t1
      show getA (setA (A 9) (s 15) (bt sd j)) t = _
      by_cases z : t.toInt = (s 15).toInt
      · have et : fm + t = j := Int32.toInt_inj.mp (by rw [add_i (by omega) (by omega)]; omega)
        rw [Int32.toInt_inj.mp z, getA_set k9, if_pos rfl, ← Int32.toInt_inj.mp z, et]
      · rw [get_ne k9 t0 (by omega) z]
        exact hg t t0 (by omega))
    refine ⟨l', ⟨g1, g2⟩, fun b pre post Q hq => ?_⟩
    rw [m24_3]
    simp [hlt, m24_0, m24_1u, m24_5, m24_6, m24_9, m24_10, m24_11, m24_12, m24_14, m24_15, m24_16, m24_17, m24_18, m24_21u, m24_21i, m24_21r, m24_21g, m24_23, m24_25, m24_28, m24_29, m24_30, m24_33, m24_36, m24_37, nb0, nb1, ou_a, Option.toList_some, Option.toList_none, List.nil_append, List.cons_append]
    refine o17 h h13 bb.1 bb.2 c1 c2 c3 b pre post _ ?_
    simp [o5, m24_0, m24_1u, m24_5, m24_6, m24_9, m24_10, m24_11, m24_12, m24_14, m24_15, m24_16, m24_17, m24_18, m24_21u, m24_21i, m24_21r, m24_21g, m24_23, m24_25, m24_28, m24_29, m24_30, m24_33, m24_36, m24_37, nb0, nb1, ou_a, Option.toList_some, Option.toList_none, List.nil_append, List.cons_append]
    refine hv b pre post Q ?_
    rw [ou_same, ou_same]
    exact hq
theorem o24 (h : LN A) {sd fm to : Int32} (f0 : 0 ≤ fm.toInt) (ft : fm.toInt ≤ to.toInt) (t16 : to.toInt - fm.toInt ≤ 16) (to1 : to.toInt ≤ 100) (h13 : ¬ s 13 = 0) (e15 : s 15 = 0) (p14 : 0 ≤ (s 14).toInt) (q14 : (s 14).toInt + (to.toInt - fm.toInt) ≤ 256) : ∃ l' : List Int32, (l'.length = 16 ∧ ∀ t : Int32, 0 ≤ t.toInt → t.toInt < to.toInt - fm.toInt → getA l' t = bt sd (fm + t)) ∧ ∀ (b : Nat) (pre post : AHeap) (Q : Option Value → AHeap → Prop), Q (some (.int 1)) (put (b + 1) pre (ou s 15 (to - fm)) (ou A 9 l') post) → M24 0 [.val (.ref (b + 1)), .val (.int sd), .val (.int fm), .val (.int to), .unset, .unset] [] (put (b + 1) pre s A post) Q := by
  obtain ⟨l', g, hv⟩ := o24a f0 ft t16 to1 (to.toInt - fm.toInt).toNat fm .unset s A h okS_u (Int.le_refl _) (by omega) h13 (by rw [e15, i_0]; omega) p14 q14 (fun t t0 t1 => absurd t1 (by rw [e15, i_0]; omega))
  refine ⟨l', g, fun b pre post Q hq => ?_⟩
  simp [m24_0, m24_1u, m24_5, m24_6, m24_9, m24_10, m24_11, m24_12, m24_14, m24_15, m24_16, m24_17, m24_18, m24_21u, m24_21i, m24_21r, m24_21g, m24_23, m24_25, m24_28, m24_29, m24_30, m24_33, m24_36, m24_37, nb0, nb1, ou_a, Option.toList_some, Option.toList_none, List.nil_append, List.cons_append]
  exact hv b pre post Q hq
set_option maxRecDepth 1000000 in
set_option maxHeartbeats 20000000 in
theorem d10 (h : LN A) (w : Int32) : ∃ (v : Int32) (s' : Nat → Int32) (A' : Nat → List Int32), (LN A' ∧ (∀ i, i ≠ 1 → i ≠ 2 → i ≠ 3 → i ≠ 4 → i ≠ 5 → i ≠ 6 → s' i = s i)) ∧ ∀ (b : Nat) (pre post : AHeap) (Q : Option Value → AHeap → Prop), Q (some (.int v)) (put (b + 1) pre s' A' post) → M10 0 [.val (.ref (b + 1)), .val (.int w), .unset] [] (put (b + 1) pre s A post) Q := by
  by_cases a1 : s 1 = 0
  · by_cases a2 : w < 0
    · exact ⟨-2, s, A, ⟨h, fun _ _ _ _ _ _ _ => rfl⟩, fun b pre post Q hq => by simp [a1, a2, m10_0, m10_1, m10_4, m10_7, m10_8, m10_9, m10_10, m10_11, m10_14, m10_17, m10_19, m10_20, m10_21, m10_24, m10_26, m10_29, m10_31, m10_32, m10_33, m10_36, m10_38, m10_41, m10_43, m10_44, m10_45, m10_48, m10_49, m10_52, m10_53, m10_55, m10_58, m10_60, m10_61, m10_62, m10_65, m10_66, m10_69, m10_70u, m10_71, m10_72, m10_75, m10_76, m10_78, m10_81, m10_83, m10_84, m10_85, m10_88, m10_89, m10_90, m10_91, m10_92, m10_93, m10_96, m10_97, m10_98, m10_101, m10_102, m11_0, m11_1, m11_4, m11_5, m11_8, m11_11, m11_12, m11_15, m11_16, nb0, nb1, ou_a, Option.toList_some, Option.toList_none, List.nil_append, List.cons_append]; exact hq⟩
    by_cases a3 : 255 < w
    · exact ⟨-2, s, A, ⟨h, fun _ _ _ _ _ _ _ => rfl⟩, fun b pre post Q hq => by simp [a1, a2, a3, m10_0, m10_1, m10_4, m10_7, m10_8, m10_9, m10_10, m10_11, m10_14, m10_17, m10_19, m10_20, m10_21, m10_24, m10_26, m10_29, m10_31, m10_32, m10_33, m10_36, m10_38, m10_41, m10_43, m10_44, m10_45, m10_48, m10_49, m10_52, m10_53, m10_55, m10_58, m10_60, m10_61, m10_62, m10_65, m10_66, m10_69, m10_70u, m10_71, m10_72, m10_75, m10_76, m10_78, m10_81, m10_83, m10_84, m10_85, m10_88, m10_89, m10_90, m10_91, m10_92, m10_93, m10_96, m10_97, m10_98, m10_101, m10_102, m11_0, m11_1, m11_4, m11_5, m11_8, m11_11, m11_12, m11_15, m11_16, nb0, nb1, ou_a, Option.toList_some, Option.toList_none, List.nil_append, List.cons_append]; exact hq⟩
    by_cases a4 : s 2 < 16
    · by_cases a5 : s 4 < 16
      · by_cases a6 : s 3 + s 4 < 64
        · by_cases a7 : s 3 + s 4 < 0
          · exact ⟨-3, s, A, ⟨h, fun _ _ _ _ _ _ _ => rfl⟩, fun b pre post Q hq => by simp [a1, a2, a3, a4, a5, a6, a7, m10_0, m10_1, m10_4, m10_7, m10_8, m10_9, m10_10, m10_11, m10_14, m10_17, m10_19, m10_20, m10_21, m10_24, m10_26, m10_29, m10_31, m10_32, m10_33, m10_36, m10_38, m10_41, m10_43, m10_44, m10_45, m10_48, m10_49, m10_52, m10_53, m10_55, m10_58, m10_60, m10_61, m10_62, m10_65, m10_66, m10_69, m10_70u, m10_71, m10_72, m10_75, m10_76, m10_78, m10_81, m10_83, m10_84, m10_85, m10_88, m10_89, m10_90, m10_91, m10_92, m10_93, m10_96, m10_97, m10_98, m10_101, m10_102, m11_0, m11_1, m11_4, m11_5, m11_8, m11_11, m11_12, m11_15, m11_16, nb0, nb1, ou_a, Option.toList_some, Option.toList_none, List.nil_append, List.cons_append]; exact hq⟩
          · have k0 := in_lt h z0 a7 a6
            refine ⟨0, ou s 4 (s 4 + 1), ou A 0 (setA (A 0) (s 3 + s 4) w), ⟨(by (repeat refine LN_ou ?_ (by simp only [setA_len]; exact h _)); exact h), fun i _ _ _ i4 _ _ => by rw [ou_a, if_neg i4]⟩, fun b pre post Q hq => ?_⟩
            simp [a1, a2, a3, a4, a5, a6, a7, k0, m10_0, m10_1, m10_4, m10_7, m10_8, m10_9, m10_10, m10_11, m10_14, m10_17, m10_19, m10_20, m10_21, m10_24, m10_26, m10_29, m10_31, m10_32, m10_33, m10_36, m10_38, m10_41, m10_43, m10_44, m10_45, m10_48, m10_49, m10_52, m10_53, m10_55, m10_58, m10_60, m10_61, m10_62, m10_65, m10_66, m10_69, m10_70u, m10_71, m10_72, m10_75, m10_76, m10_78, m10_81, m10_83, m10_84, m10_85, m10_88, m10_89, m10_90, m10_91, m10_92, m10_93, m10_96, m10_97, m10_98, m10_101, m10_102, m11_0, m11_1, m11_4, m11_5, m11_8, m11_11, m11_12, m11_15, m11_16, nb0, nb1, ou_a, Option.toList_some, Option.toList_none, List.nil_append, List.cons_append]
            exact hq
        · exact ⟨-3, s, A, ⟨h, fun _ _ _ _ _ _ _ => rfl⟩, fun b pre post Q hq => by simp [a1, a2, a3, a4, a5, a6, m10_0, m10_1, m10_4, m10_7, m10_8, m10_9, m10_10, m10_11, m10_14, m10_17, m10_19, m10_20, m10_21, m10_24, m10_26, m10_29, m10_31, m10_32, m10_33, m10_36, m10_38, m10_41, m10_43, m10_44, m10_45, m10_48, m10_49, m10_52, m10_53, m10_55, m10_58, m10_60, m10_61, m10_62, m10_65, m10_66, m10_69, m10_70u, m10_71, m10_72, m10_75, m10_76, m10_78, m10_81, m10_83, m10_84, m10_85, m10_88, m10_89, m10_90, m10_91, m10_92, m10_93, m10_96, m10_97, m10_98, m10_101, m10_102, m11_0, m11_1, m11_4, m11_5, m11_8, m11_11, m11_12, m11_15, m11_16, nb0, nb1, ou_a, Option.toList_some, Option.toList_none, List.nil_append, List.cons_append]; exact hq⟩
      · exact ⟨-3, s, A, ⟨h, fun _ _ _ _ _ _ _ => rfl⟩, fun b pre post Q hq => by simp [a1, a2, a3, a4, a5, m10_0, m10_1, m10_4, m10_7, m10_8, m10_9, m10_10, m10_11, m10_14, m10_17, m10_19, m10_20, m10_21, m10_24, m10_26, m10_29, m10_31, m10_32, m10_33, m10_36, m10_38, m10_41, m10_43, m10_44, m10_45, m10_48, m10_49, m10_52, m10_53, m10_55, m10_58, m10_60, m10_61, m10_62, m10_65, m10_66, m10_69, m10_70u, m10_71, m10_72, m10_75, m10_76, m10_78, m10_81, m10_83, m10_84, m10_85, m10_88, m10_89, m10_90, m10_91, m10_92, m10_93, m10_96, m10_97, m10_98, m10_101, m10_102, m11_0, m11_1, m11_4, m11_5, m11_8, m11_11, m11_12, m11_15, m11_16, nb0, nb1, ou_a, Option.toList_some, Option.toList_none, List.nil_append, List.cons_append]; exact hq⟩
    · exact ⟨-3, s, A, ⟨h, fun _ _ _ _ _ _ _ => rfl⟩, fun b pre post Q hq => by simp [a1, a2, a3, a4, m10_0, m10_1, m10_4, m10_7, m10_8, m10_9, m10_10, m10_11, m10_14, m10_17, m10_19, m10_20, m10_21, m10_24, m10_26, m10_29, m10_31, m10_32, m10_33, m10_36, m10_38, m10_41, m10_43, m10_44, m10_45, m10_48, m10_49, m10_52, m10_53, m10_55, m10_58, m10_60, m10_61, m10_62, m10_65, m10_66, m10_69, m10_70u, m10_71, m10_72, m10_75, m10_76, m10_78, m10_81, m10_83, m10_84, m10_85, m10_88, m10_89, m10_90, m10_91, m10_92, m10_93, m10_96, m10_97, m10_98, m10_101, m10_102, m11_0, m11_1, m11_4, m11_5, m11_8, m11_11, m11_12, m11_15, m11_16, nb0, nb1, ou_a, Option.toList_some, Option.toList_none, List.nil_append, List.cons_append]; exact hq⟩
  · exact ⟨-1, s, A, ⟨h, fun _ _ _ _ _ _ _ => rfl⟩, fun b pre post Q hq => by simp [a1, m10_0, m10_1, m10_4, m10_7, m10_8, m10_9, m10_10, m10_11, m10_14, m10_17, m10_19, m10_20, m10_21, m10_24, m10_26, m10_29, m10_31, m10_32, m10_33, m10_36, m10_38, m10_41, m10_43, m10_44, m10_45, m10_48, m10_49, m10_52, m10_53, m10_55, m10_58, m10_60, m10_61, m10_62, m10_65, m10_66, m10_69, m10_70u, m10_71, m10_72, m10_75, m10_76, m10_78, m10_81, m10_83, m10_84, m10_85, m10_88, m10_89, m10_90, m10_91, m10_92, m10_93, m10_96, m10_97, m10_98, m10_101, m10_102, nb0, nb1, ou_a, Option.toList_some, Option.toList_none, List.nil_append, List.cons_append]; exact hq⟩
set_option maxRecDepth 1000000 in
set_option maxHeartbeats 20000000 in
theorem d9 (h : LN A) : ∃ (v : Int32) (s' : Nat → Int32) (A' : Nat → List Int32), (LN A' ∧ (∀ i, i ≠ 1 → i ≠ 2 → i ≠ 3 → i ≠ 4 → i ≠ 5 → i ≠ 6 → s' i = s i)) ∧ ∀ (b : Nat) (pre post : AHeap) (Q : Option Value → AHeap → Prop), Q (some (.int v)) (put (b + 1) pre s' A' post) → M9 0 [.val (.ref (b + 1)), .unset] [] (put (b + 1) pre s A post) Q := by
  by_cases a1 : s 1 = 0
  · by_cases a2 : s 4 = 0
    · exact ⟨-4, s, A, ⟨h, fun _ _ _ _ _ _ _ => rfl⟩, fun b pre post Q hq => by simp [a1, a2, m9_0, m9_1, m9_4, m9_7, m9_8, m9_9, m9_10, m9_13, m9_16, m9_18, m9_19, m9_20, m9_23u, m9_24, m9_25, m9_28, m9_29, m9_31, m9_34, m9_36, m9_37, m9_38, m9_41, m9_42, m9_43, m9_46, m9_47, m9_48, m9_51, m9_52, m9_53, m9_56, m9_57, m9_58, m9_59, m9_62, m9_63, m9_66, m9_67, m9_70, m9_71, m9_72, m9_75, m9_76, m9_77, m9_78, m9_79, m9_82, m9_83, nb0, nb1, ou_a, Option.toList_some, Option.toList_none, List.nil_append, List.cons_append]; exact hq⟩
    by_cases a3 : s 2 < 0
    · exact ⟨-3, s, A, ⟨h, fun _ _ _ _ _ _ _ => rfl⟩, fun b pre post Q hq => by simp [a1, a2, a3, m9_0, m9_1, m9_4, m9_7, m9_8, m9_9, m9_10, m9_13, m9_16, m9_18, m9_19, m9_20, m9_23u, m9_24, m9_25, m9_28, m9_29, m9_31, m9_34, m9_36, m9_37, m9_38, m9_41, m9_42, m9_43, m9_46, m9_47, m9_48, m9_51, m9_52, m9_53, m9_56, m9_57, m9_58, m9_59, m9_62, m9_63, m9_66, m9_67, m9_70, m9_71, m9_72, m9_75, m9_76, m9_77, m9_78, m9_79, m9_82, m9_83, nb0, nb1, ou_a, Option.toList_some, Option.toList_none, List.nil_append, List.cons_append]; exact hq⟩
    by_cases a4 : s 2 < 16
    · have k1 := in_lt h z1 a3 a4
      have k2 := in_lt h z2 a3 a4
      refine ⟨s 2, ou (ou (ou s 3 (s 3 + s 4)) 4 0) 2 (s 2 + 1), ou (ou A 1 (setA (A 1) (s 2) (s 3))) 2 (setA (A 2) (s 2) (s 4)), ⟨(by (repeat refine LN_ou ?_ (by simp only [setA_len]; exact h _)); exact h), fun i _ i2 i3 i4 _ _ => by rw [ou_a, if_neg i2, ou_a, if_neg i4, ou_a, if_neg i3]⟩, fun b pre post Q hq => ?_⟩
      simp [a1, a2, a3, a4, k1, k2, m9_0, m9_1, m9_4, m9_7, m9_8, m9_9, m9_10, m9_13, m9_16, m9_18, m9_19, m9_20, m9_23u, m9_24, m9_25, m9_28, m9_29, m9_31, m9_34, m9_36, m9_37, m9_38, m9_41, m9_42, m9_43, m9_46, m9_47, m9_48, m9_51, m9_52, m9_53, m9_56, m9_57, m9_58, m9_59, m9_62, m9_63, m9_66, m9_67, m9_70, m9_71, m9_72, m9_75, m9_76, m9_77, m9_78, m9_79, m9_82, m9_83, nb0, nb1, ou_a, Option.toList_some, Option.toList_none, List.nil_append, List.cons_append]
      exact hq
    · exact ⟨-3, s, A, ⟨h, fun _ _ _ _ _ _ _ => rfl⟩, fun b pre post Q hq => by simp [a1, a2, a3, a4, m9_0, m9_1, m9_4, m9_7, m9_8, m9_9, m9_10, m9_13, m9_16, m9_18, m9_19, m9_20, m9_23u, m9_24, m9_25, m9_28, m9_29, m9_31, m9_34, m9_36, m9_37, m9_38, m9_41, m9_42, m9_43, m9_46, m9_47, m9_48, m9_51, m9_52, m9_53, m9_56, m9_57, m9_58, m9_59, m9_62, m9_63, m9_66, m9_67, m9_70, m9_71, m9_72, m9_75, m9_76, m9_77, m9_78, m9_79, m9_82, m9_83, nb0, nb1, ou_a, Option.toList_some, Option.toList_none, List.nil_append, List.cons_append]; exact hq⟩
  · exact ⟨-1, s, A, ⟨h, fun _ _ _ _ _ _ _ => rfl⟩, fun b pre post Q hq => by simp [a1, m9_0, m9_1, m9_4, m9_7, m9_8, m9_9, m9_10, m9_13, m9_16, m9_18, m9_19, m9_20, m9_23u, m9_24, m9_25, m9_28, m9_29, m9_31, m9_34, m9_36, m9_37, m9_38, m9_41, m9_42, m9_43, m9_46, m9_47, m9_48, m9_51, m9_52, m9_53, m9_56, m9_57, m9_58, m9_59, m9_62, m9_63, m9_66, m9_67, m9_70, m9_71, m9_72, m9_75, m9_76, m9_77, m9_78, m9_79, m9_82, m9_83, nb0, nb1, ou_a, Option.toList_some, Option.toList_none, List.nil_append, List.cons_append]; exact hq⟩
theorem d12x (h : LN A) : ∃ (v : Int32) (s' : Nat → Int32) (A' : Nat → List Int32), (LN A' ∧ (∀ i, i ≠ 1 → i ≠ 2 → i ≠ 3 → i ≠ 4 → i ≠ 5 → i ≠ 6 → s' i = s i)) ∧ ∀ (b : Nat) (pre post : AHeap) (Q : Option Value → AHeap → Prop), Q (some (.int v)) (put (b + 1) pre s' A' post) → M12 0 [.val (.ref (b + 1))] [] (put (b + 1) pre s A post) Q := by
  by_cases a1 : s 1 = 0
  · by_cases a4 : s 4 = 0
    · by_cases a2 : s 2 = 0
      · exact ⟨-4, s, A, ⟨h, fun _ _ _ _ _ _ _ => rfl⟩, fun b pre post Q hq => by simp [a1, a4, a2, m12_0, m12_1, m12_4, m12_7, m12_8, m12_9, m12_10, m12_13, m12_16, m12_17, m12_18, m12_19, m12_22, m12_25, m12_27, m12_28, m12_29, m12_32, m12_33, m12_36, m12_37, m12_38, m12_41, m12_42, m12_43, m12_46, m12_47, nb0, nb1, ou_a, Option.toList_some, Option.toList_none, List.nil_append, List.cons_append]; exact hq⟩
      · obtain ⟨s', A', ⟨g1, g2, g3, g4, g5⟩, hv⟩ := d12 h a1 a4 a2
        exact ⟨0, s', A', ⟨g1, fun i i1 _ _ _ i5 i6 => g5 i i1 i5 i6⟩, hv⟩
    · exact ⟨-1, s, A, ⟨h, fun _ _ _ _ _ _ _ => rfl⟩, fun b pre post Q hq => by simp [a1, a4, m12_0, m12_1, m12_4, m12_7, m12_8, m12_9, m12_10, m12_13, m12_16, m12_17, m12_18, m12_19, m12_22, m12_25, m12_27, m12_28, m12_29, m12_32, m12_33, m12_36, m12_37, m12_38, m12_41, m12_42, m12_43, m12_46, m12_47, nb0, nb1, ou_a, Option.toList_some, Option.toList_none, List.nil_append, List.cons_append]; exact hq⟩
  · exact ⟨-1, s, A, ⟨h, fun _ _ _ _ _ _ _ => rfl⟩, fun b pre post Q hq => by simp [a1, m12_0, m12_1, m12_4, m12_7, m12_8, m12_9, m12_10, m12_13, m12_16, m12_17, m12_18, m12_19, m12_22, m12_25, m12_27, m12_28, m12_29, m12_32, m12_33, m12_36, m12_37, m12_38, m12_41, m12_42, m12_43, m12_46, m12_47, nb0, nb1, ou_a, Option.toList_some, Option.toList_none, List.nil_append, List.cons_append]; exact hq⟩
theorem c10n {v : Int32} (a1 : ¬ s 1 = 0) : ∀ (b : Nat) (pre post : AHeap) (Q : Option Value → AHeap → Prop), Q (some (.int (-1))) (put (b + 1) pre s A post) → M10 0 [.val (.ref (b + 1)), .val (.int v), .unset] [] (put (b + 1) pre s A post) Q := by
  intro b pre post Q hq
  simp [a1, m10_0, m10_1, m10_4, m10_7, m10_8, m10_9, m10_10, m10_11, m10_14, m10_17, m10_19, m10_20, m10_21, m10_24, m10_26, m10_29, m10_31, m10_32, m10_33, m10_36, m10_38, m10_41, m10_43, m10_44, m10_45, m10_48, m10_49, m10_52, m10_53, m10_55, m10_58, m10_60, m10_61, m10_62, m10_65, m10_66, m10_69, m10_70u, m10_71, m10_72, m10_75, m10_76, m10_78, m10_81, m10_83, m10_84, m10_85, m10_88, m10_89, m10_90, m10_91, m10_92, m10_93, m10_96, m10_97, m10_98, m10_101, m10_102, nb0, nb1, ou_a, Option.toList_some, Option.toList_none, List.nil_append, List.cons_append]
  exact hq
theorem c9n (a1 : ¬ s 1 = 0) : ∀ (b : Nat) (pre post : AHeap) (Q : Option Value → AHeap → Prop), Q (some (.int (-1))) (put (b + 1) pre s A post) → M9 0 [.val (.ref (b + 1)), .unset] [] (put (b + 1) pre s A post) Q := by
  intro b pre post Q hq
  simp [a1, m9_0, m9_1, m9_4, m9_7, m9_8, m9_9, m9_10, m9_13, m9_16, m9_18, m9_19, m9_20, m9_23u, m9_24, m9_25, m9_28, m9_29, m9_31, m9_34, m9_36, m9_37, m9_38, m9_41, m9_42, m9_43, m9_46, m9_47, m9_48, m9_51, m9_52, m9_53, m9_56, m9_57, m9_58, m9_59, m9_62, m9_63, m9_66, m9_67, m9_70, m9_71, m9_72, m9_75, m9_76, m9_77, m9_78, m9_79, m9_82, m9_83, nb0, nb1, ou_a, Option.toList_some, Option.toList_none, List.nil_append, List.cons_append]
  exact hq
theorem c12n (a1 : ¬ s 1 = 0) : ∀ (b : Nat) (pre post : AHeap) (Q : Option Value → AHeap → Prop), Q (some (.int (-1))) (put (b + 1) pre s A post) → M12 0 [.val (.ref (b + 1))] [] (put (b + 1) pre s A post) Q := by
  intro b pre post Q hq
  simp [a1, m12_0, m12_1, m12_4, m12_7, m12_8, m12_9, m12_10, m12_13, m12_16, m12_17, m12_18, m12_19, m12_22, m12_25, m12_27, m12_28, m12_29, m12_32, m12_33, m12_36, m12_37, m12_38, m12_41, m12_42, m12_43, m12_46, m12_47, nb0, nb1, ou_a, Option.toList_some, Option.toList_none, List.nil_append, List.cons_append]
  exact hq
set_option maxRecDepth 1000000 in
set_option maxHeartbeats 20000000 in
theorem q1 (k : Int32) (k0 : 0 ≤ k.toInt) (k1 : k.toInt ≤ 15) : ∃ v : Int32, ∀ (B : Nat → List Int32), LN B → (∀ j, j ≠ 9 → B j = A j) → ∀ (b : Nat) (pre post : AHeap) (Q : Option Value → AHeap → Prop), Q (some (.int v)) (put (b + 1) pre s B post) → M1 0 [.val (.ref (b + 1)), .val (.int k)] [] (put (b + 1) pre s B post) Q := by
  obtain ⟨n, hn, e⟩ := rng (x := k) (n := 16) k0 (by omega)
  have hn' : n = 0 ∨ n = 1 ∨ n = 2 ∨ n = 3 ∨ n = 4 ∨ n = 5 ∨ n = 6 ∨ n = 7 ∨ n = 8 ∨ n = 9 ∨ n = 10 ∨ n = 11 ∨ n = 12 ∨ n = 13 ∨ n = 14 ∨ n = 15 := by omega
  subst e
  rcases hn' with rfl | rfl | rfl | rfl | rfl | rfl | rfl | rfl | rfl | rfl | rfl | rfl | rfl | rfl | rfl | rfl
  · exact ⟨s 7, fun B _ _ b pre post Q hq => by rw [(show Int32.ofNat 0 = 0 from rfl)]; simp [m1_0, m1_1_0, m1_1_1, m1_1_2, m1_1_3, m1_1_4, m1_1_5, m1_1_6, m1_1_7, m1_1_8, m1_1_9, m1_1_10, m1_1_11, m1_1_12, m1_1_13, m1_1_14, m1_76, m1_77, m1_80, m1_81, m1_82, m1_85, m1_86, m1_87, m1_90, m1_91, m1_92, m1_95, m1_96, m1_97, m1_100, m1_101, m1_102, m1_105, m1_106, m1_107, m1_110, m1_111, m1_112, m1_115, m1_116, m1_117, m1_120, m1_121, m1_122, m1_123, m1_126, m1_129, m1_130, m1_131, m1_132, m1_135, m1_138, m1_139, m1_140, m1_143, m1_146, m1_147, m1_150, m1_153, m1_154, m1_155, m1_156, m1_159, m1_162, m1_163, m1_166, m1_169, m1_170, m1_171, m1_172, m1_175, m1_176, m1_177, m1_180, m1_181, m1_182, nb0, nb1, ou_a, Option.toList_some, Option.toList_none, List.nil_append, List.cons_append]; exact hq⟩
  · exact ⟨s 8, fun B _ _ b pre post Q hq => by rw [(show Int32.ofNat 1 = 1 from rfl)]; simp [m1_0, m1_1_0, m1_1_1, m1_1_2, m1_1_3, m1_1_4, m1_1_5, m1_1_6, m1_1_7, m1_1_8, m1_1_9, m1_1_10, m1_1_11, m1_1_12, m1_1_13, m1_1_14, m1_76, m1_77, m1_80, m1_81, m1_82, m1_85, m1_86, m1_87, m1_90, m1_91, m1_92, m1_95, m1_96, m1_97, m1_100, m1_101, m1_102, m1_105, m1_106, m1_107, m1_110, m1_111, m1_112, m1_115, m1_116, m1_117, m1_120, m1_121, m1_122, m1_123, m1_126, m1_129, m1_130, m1_131, m1_132, m1_135, m1_138, m1_139, m1_140, m1_143, m1_146, m1_147, m1_150, m1_153, m1_154, m1_155, m1_156, m1_159, m1_162, m1_163, m1_166, m1_169, m1_170, m1_171, m1_172, m1_175, m1_176, m1_177, m1_180, m1_181, m1_182, nb0, nb1, ou_a, Option.toList_some, Option.toList_none, List.nil_append, List.cons_append]; exact hq⟩
  · exact ⟨s 9, fun B _ _ b pre post Q hq => by rw [(show Int32.ofNat 2 = 2 from rfl)]; simp [m1_0, m1_1_0, m1_1_1, m1_1_2, m1_1_3, m1_1_4, m1_1_5, m1_1_6, m1_1_7, m1_1_8, m1_1_9, m1_1_10, m1_1_11, m1_1_12, m1_1_13, m1_1_14, m1_76, m1_77, m1_80, m1_81, m1_82, m1_85, m1_86, m1_87, m1_90, m1_91, m1_92, m1_95, m1_96, m1_97, m1_100, m1_101, m1_102, m1_105, m1_106, m1_107, m1_110, m1_111, m1_112, m1_115, m1_116, m1_117, m1_120, m1_121, m1_122, m1_123, m1_126, m1_129, m1_130, m1_131, m1_132, m1_135, m1_138, m1_139, m1_140, m1_143, m1_146, m1_147, m1_150, m1_153, m1_154, m1_155, m1_156, m1_159, m1_162, m1_163, m1_166, m1_169, m1_170, m1_171, m1_172, m1_175, m1_176, m1_177, m1_180, m1_181, m1_182, nb0, nb1, ou_a, Option.toList_some, Option.toList_none, List.nil_append, List.cons_append]; exact hq⟩
  · exact ⟨s 10, fun B _ _ b pre post Q hq => by rw [(show Int32.ofNat 3 = 3 from rfl)]; simp [m1_0, m1_1_0, m1_1_1, m1_1_2, m1_1_3, m1_1_4, m1_1_5, m1_1_6, m1_1_7, m1_1_8, m1_1_9, m1_1_10, m1_1_11, m1_1_12, m1_1_13, m1_1_14, m1_76, m1_77, m1_80, m1_81, m1_82, m1_85, m1_86, m1_87, m1_90, m1_91, m1_92, m1_95, m1_96, m1_97, m1_100, m1_101, m1_102, m1_105, m1_106, m1_107, m1_110, m1_111, m1_112, m1_115, m1_116, m1_117, m1_120, m1_121, m1_122, m1_123, m1_126, m1_129, m1_130, m1_131, m1_132, m1_135, m1_138, m1_139, m1_140, m1_143, m1_146, m1_147, m1_150, m1_153, m1_154, m1_155, m1_156, m1_159, m1_162, m1_163, m1_166, m1_169, m1_170, m1_171, m1_172, m1_175, m1_176, m1_177, m1_180, m1_181, m1_182, nb0, nb1, ou_a, Option.toList_some, Option.toList_none, List.nil_append, List.cons_append]; exact hq⟩
  · exact ⟨s 11, fun B _ _ b pre post Q hq => by rw [(show Int32.ofNat 4 = 4 from rfl)]; simp [m1_0, m1_1_0, m1_1_1, m1_1_2, m1_1_3, m1_1_4, m1_1_5, m1_1_6, m1_1_7, m1_1_8, m1_1_9, m1_1_10, m1_1_11, m1_1_12, m1_1_13, m1_1_14, m1_76, m1_77, m1_80, m1_81, m1_82, m1_85, m1_86, m1_87, m1_90, m1_91, m1_92, m1_95, m1_96, m1_97, m1_100, m1_101, m1_102, m1_105, m1_106, m1_107, m1_110, m1_111, m1_112, m1_115, m1_116, m1_117, m1_120, m1_121, m1_122, m1_123, m1_126, m1_129, m1_130, m1_131, m1_132, m1_135, m1_138, m1_139, m1_140, m1_143, m1_146, m1_147, m1_150, m1_153, m1_154, m1_155, m1_156, m1_159, m1_162, m1_163, m1_166, m1_169, m1_170, m1_171, m1_172, m1_175, m1_176, m1_177, m1_180, m1_181, m1_182, nb0, nb1, ou_a, Option.toList_some, Option.toList_none, List.nil_append, List.cons_append]; exact hq⟩
  · exact ⟨s 16, fun B _ _ b pre post Q hq => by rw [(show Int32.ofNat 5 = 5 from rfl)]; simp [m1_0, m1_1_0, m1_1_1, m1_1_2, m1_1_3, m1_1_4, m1_1_5, m1_1_6, m1_1_7, m1_1_8, m1_1_9, m1_1_10, m1_1_11, m1_1_12, m1_1_13, m1_1_14, m1_76, m1_77, m1_80, m1_81, m1_82, m1_85, m1_86, m1_87, m1_90, m1_91, m1_92, m1_95, m1_96, m1_97, m1_100, m1_101, m1_102, m1_105, m1_106, m1_107, m1_110, m1_111, m1_112, m1_115, m1_116, m1_117, m1_120, m1_121, m1_122, m1_123, m1_126, m1_129, m1_130, m1_131, m1_132, m1_135, m1_138, m1_139, m1_140, m1_143, m1_146, m1_147, m1_150, m1_153, m1_154, m1_155, m1_156, m1_159, m1_162, m1_163, m1_166, m1_169, m1_170, m1_171, m1_172, m1_175, m1_176, m1_177, m1_180, m1_181, m1_182, nb0, nb1, ou_a, Option.toList_some, Option.toList_none, List.nil_append, List.cons_append]; exact hq⟩
  · exact ⟨s 2, fun B _ _ b pre post Q hq => by rw [(show Int32.ofNat 6 = 6 from rfl)]; simp [m1_0, m1_1_0, m1_1_1, m1_1_2, m1_1_3, m1_1_4, m1_1_5, m1_1_6, m1_1_7, m1_1_8, m1_1_9, m1_1_10, m1_1_11, m1_1_12, m1_1_13, m1_1_14, m1_76, m1_77, m1_80, m1_81, m1_82, m1_85, m1_86, m1_87, m1_90, m1_91, m1_92, m1_95, m1_96, m1_97, m1_100, m1_101, m1_102, m1_105, m1_106, m1_107, m1_110, m1_111, m1_112, m1_115, m1_116, m1_117, m1_120, m1_121, m1_122, m1_123, m1_126, m1_129, m1_130, m1_131, m1_132, m1_135, m1_138, m1_139, m1_140, m1_143, m1_146, m1_147, m1_150, m1_153, m1_154, m1_155, m1_156, m1_159, m1_162, m1_163, m1_166, m1_169, m1_170, m1_171, m1_172, m1_175, m1_176, m1_177, m1_180, m1_181, m1_182, nb0, nb1, ou_a, Option.toList_some, Option.toList_none, List.nil_append, List.cons_append]; exact hq⟩
  · exact ⟨s 3, fun B _ _ b pre post Q hq => by rw [(show Int32.ofNat 7 = 7 from rfl)]; simp [m1_0, m1_1_0, m1_1_1, m1_1_2, m1_1_3, m1_1_4, m1_1_5, m1_1_6, m1_1_7, m1_1_8, m1_1_9, m1_1_10, m1_1_11, m1_1_12, m1_1_13, m1_1_14, m1_76, m1_77, m1_80, m1_81, m1_82, m1_85, m1_86, m1_87, m1_90, m1_91, m1_92, m1_95, m1_96, m1_97, m1_100, m1_101, m1_102, m1_105, m1_106, m1_107, m1_110, m1_111, m1_112, m1_115, m1_116, m1_117, m1_120, m1_121, m1_122, m1_123, m1_126, m1_129, m1_130, m1_131, m1_132, m1_135, m1_138, m1_139, m1_140, m1_143, m1_146, m1_147, m1_150, m1_153, m1_154, m1_155, m1_156, m1_159, m1_162, m1_163, m1_166, m1_169, m1_170, m1_171, m1_172, m1_175, m1_176, m1_177, m1_180, m1_181, m1_182, nb0, nb1, ou_a, Option.toList_some, Option.toList_none, List.nil_append, List.cons_append]; exact hq⟩
  · exact ⟨s 4, fun B _ _ b pre post Q hq => by rw [(show Int32.ofNat 8 = 8 from rfl)]; simp [m1_0, m1_1_0, m1_1_1, m1_1_2, m1_1_3, m1_1_4, m1_1_5, m1_1_6, m1_1_7, m1_1_8, m1_1_9, m1_1_10, m1_1_11, m1_1_12, m1_1_13, m1_1_14, m1_76, m1_77, m1_80, m1_81, m1_82, m1_85, m1_86, m1_87, m1_90, m1_91, m1_92, m1_95, m1_96, m1_97, m1_100, m1_101, m1_102, m1_105, m1_106, m1_107, m1_110, m1_111, m1_112, m1_115, m1_116, m1_117, m1_120, m1_121, m1_122, m1_123, m1_126, m1_129, m1_130, m1_131, m1_132, m1_135, m1_138, m1_139, m1_140, m1_143, m1_146, m1_147, m1_150, m1_153, m1_154, m1_155, m1_156, m1_159, m1_162, m1_163, m1_166, m1_169, m1_170, m1_171, m1_172, m1_175, m1_176, m1_177, m1_180, m1_181, m1_182, nb0, nb1, ou_a, Option.toList_some, Option.toList_none, List.nil_append, List.cons_append]; exact hq⟩
  · by_cases c : s 1 = 0
    · exact ⟨0, fun B _ _ b pre post Q hq => by rw [(show Int32.ofNat 9 = 9 from rfl)]; simp [c, m1_0, m1_1_0, m1_1_1, m1_1_2, m1_1_3, m1_1_4, m1_1_5, m1_1_6, m1_1_7, m1_1_8, m1_1_9, m1_1_10, m1_1_11, m1_1_12, m1_1_13, m1_1_14, m1_76, m1_77, m1_80, m1_81, m1_82, m1_85, m1_86, m1_87, m1_90, m1_91, m1_92, m1_95, m1_96, m1_97, m1_100, m1_101, m1_102, m1_105, m1_106, m1_107, m1_110, m1_111, m1_112, m1_115, m1_116, m1_117, m1_120, m1_121, m1_122, m1_123, m1_126, m1_129, m1_130, m1_131, m1_132, m1_135, m1_138, m1_139, m1_140, m1_143, m1_146, m1_147, m1_150, m1_153, m1_154, m1_155, m1_156, m1_159, m1_162, m1_163, m1_166, m1_169, m1_170, m1_171, m1_172, m1_175, m1_176, m1_177, m1_180, m1_181, m1_182, m3_0, m3_1, m3_4, m3_5, m3_8, m3_9, nb0, nb1, ou_a, Option.toList_some, Option.toList_none, List.nil_append, List.cons_append]; exact hq⟩
    · exact ⟨1, fun B _ _ b pre post Q hq => by rw [(show Int32.ofNat 9 = 9 from rfl)]; simp [c, m1_0, m1_1_0, m1_1_1, m1_1_2, m1_1_3, m1_1_4, m1_1_5, m1_1_6, m1_1_7, m1_1_8, m1_1_9, m1_1_10, m1_1_11, m1_1_12, m1_1_13, m1_1_14, m1_76, m1_77, m1_80, m1_81, m1_82, m1_85, m1_86, m1_87, m1_90, m1_91, m1_92, m1_95, m1_96, m1_97, m1_100, m1_101, m1_102, m1_105, m1_106, m1_107, m1_110, m1_111, m1_112, m1_115, m1_116, m1_117, m1_120, m1_121, m1_122, m1_123, m1_126, m1_129, m1_130, m1_131, m1_132, m1_135, m1_138, m1_139, m1_140, m1_143, m1_146, m1_147, m1_150, m1_153, m1_154, m1_155, m1_156, m1_159, m1_162, m1_163, m1_166, m1_169, m1_170, m1_171, m1_172, m1_175, m1_176, m1_177, m1_180, m1_181, m1_182, m3_0, m3_1, m3_4, m3_5, m3_8, m3_9, nb0, nb1, ou_a, Option.toList_some, Option.toList_none, List.nil_append, List.cons_append]; exact hq⟩
  · by_cases c : s 13 = 0
    · exact ⟨0, fun B _ _ b pre post Q hq => by rw [(show Int32.ofNat 10 = 10 from rfl)]; simp [c, m1_0, m1_1_0, m1_1_1, m1_1_2, m1_1_3, m1_1_4, m1_1_5, m1_1_6, m1_1_7, m1_1_8, m1_1_9, m1_1_10, m1_1_11, m1_1_12, m1_1_13, m1_1_14, m1_76, m1_77, m1_80, m1_81, m1_82, m1_85, m1_86, m1_87, m1_90, m1_91, m1_92, m1_95, m1_96, m1_97, m1_100, m1_101, m1_102, m1_105, m1_106, m1_107, m1_110, m1_111, m1_112, m1_115, m1_116, m1_117, m1_120, m1_121, m1_122, m1_123, m1_126, m1_129, m1_130, m1_131, m1_132, m1_135, m1_138, m1_139, m1_140, m1_143, m1_146, m1_147, m1_150, m1_153, m1_154, m1_155, m1_156, m1_159, m1_162, m1_163, m1_166, m1_169, m1_170, m1_171, m1_172, m1_175, m1_176, m1_177, m1_180, m1_181, m1_182, m3_0, m3_1, m3_4, m3_5, m3_8, m3_9, nb0, nb1, ou_a, Option.toList_some, Option.toList_none, List.nil_append, List.cons_append]; exact hq⟩
    · exact ⟨1, fun B _ _ b pre post Q hq => by rw [(show Int32.ofNat 10 = 10 from rfl)]; simp [c, m1_0, m1_1_0, m1_1_1, m1_1_2, m1_1_3, m1_1_4, m1_1_5, m1_1_6, m1_1_7, m1_1_8, m1_1_9, m1_1_10, m1_1_11, m1_1_12, m1_1_13, m1_1_14, m1_76, m1_77, m1_80, m1_81, m1_82, m1_85, m1_86, m1_87, m1_90, m1_91, m1_92, m1_95, m1_96, m1_97, m1_100, m1_101, m1_102, m1_105, m1_106, m1_107, m1_110, m1_111, m1_112, m1_115, m1_116, m1_117, m1_120, m1_121, m1_122, m1_123, m1_126, m1_129, m1_130, m1_131, m1_132, m1_135, m1_138, m1_139, m1_140, m1_143, m1_146, m1_147, m1_150, m1_153, m1_154, m1_155, m1_156, m1_159, m1_162, m1_163, m1_166, m1_169, m1_170, m1_171, m1_172, m1_175, m1_176, m1_177, m1_180, m1_181, m1_182, m3_0, m3_1, m3_4, m3_5, m3_8, m3_9, nb0, nb1, ou_a, Option.toList_some, Option.toList_none, List.nil_append, List.cons_append]; exact hq⟩
  · by_cases c : s 13 = 0
    · exact ⟨-1, fun B _ _ b pre post Q hq => by rw [(show Int32.ofNat 11 = 11 from rfl)]; simp [c, m1_0, m1_1_0, m1_1_1, m1_1_2, m1_1_3, m1_1_4, m1_1_5, m1_1_6, m1_1_7, m1_1_8, m1_1_9, m1_1_10, m1_1_11, m1_1_12, m1_1_13, m1_1_14, m1_76, m1_77, m1_80, m1_81, m1_82, m1_85, m1_86, m1_87, m1_90, m1_91, m1_92, m1_95, m1_96, m1_97, m1_100, m1_101, m1_102, m1_105, m1_106, m1_107, m1_110, m1_111, m1_112, m1_115, m1_116, m1_117, m1_120, m1_121, m1_122, m1_123, m1_126, m1_129, m1_130, m1_131, m1_132, m1_135, m1_138, m1_139, m1_140, m1_143, m1_146, m1_147, m1_150, m1_153, m1_154, m1_155, m1_156, m1_159, m1_162, m1_163, m1_166, m1_169, m1_170, m1_171, m1_172, m1_175, m1_176, m1_177, m1_180, m1_181, m1_182, nb0, nb1, ou_a, Option.toList_some, Option.toList_none, List.nil_append, List.cons_append]; exact hq⟩
    · exact ⟨s 14, fun B _ _ b pre post Q hq => by rw [(show Int32.ofNat 11 = 11 from rfl)]; simp [c, m1_0, m1_1_0, m1_1_1, m1_1_2, m1_1_3, m1_1_4, m1_1_5, m1_1_6, m1_1_7, m1_1_8, m1_1_9, m1_1_10, m1_1_11, m1_1_12, m1_1_13, m1_1_14, m1_76, m1_77, m1_80, m1_81, m1_82, m1_85, m1_86, m1_87, m1_90, m1_91, m1_92, m1_95, m1_96, m1_97, m1_100, m1_101, m1_102, m1_105, m1_106, m1_107, m1_110, m1_111, m1_112, m1_115, m1_116, m1_117, m1_120, m1_121, m1_122, m1_123, m1_126, m1_129, m1_130, m1_131, m1_132, m1_135, m1_138, m1_139, m1_140, m1_143, m1_146, m1_147, m1_150, m1_153, m1_154, m1_155, m1_156, m1_159, m1_162, m1_163, m1_166, m1_169, m1_170, m1_171, m1_172, m1_175, m1_176, m1_177, m1_180, m1_181, m1_182, nb0, nb1, ou_a, Option.toList_some, Option.toList_none, List.nil_append, List.cons_append]; exact hq⟩
  · by_cases c : s 13 = 0
    · exact ⟨0, fun B _ _ b pre post Q hq => by rw [(show Int32.ofNat 12 = 12 from rfl)]; simp [c, m1_0, m1_1_0, m1_1_1, m1_1_2, m1_1_3, m1_1_4, m1_1_5, m1_1_6, m1_1_7, m1_1_8, m1_1_9, m1_1_10, m1_1_11, m1_1_12, m1_1_13, m1_1_14, m1_76, m1_77, m1_80, m1_81, m1_82, m1_85, m1_86, m1_87, m1_90, m1_91, m1_92, m1_95, m1_96, m1_97, m1_100, m1_101, m1_102, m1_105, m1_106, m1_107, m1_110, m1_111, m1_112, m1_115, m1_116, m1_117, m1_120, m1_121, m1_122, m1_123, m1_126, m1_129, m1_130, m1_131, m1_132, m1_135, m1_138, m1_139, m1_140, m1_143, m1_146, m1_147, m1_150, m1_153, m1_154, m1_155, m1_156, m1_159, m1_162, m1_163, m1_166, m1_169, m1_170, m1_171, m1_172, m1_175, m1_176, m1_177, m1_180, m1_181, m1_182, nb0, nb1, ou_a, Option.toList_some, Option.toList_none, List.nil_append, List.cons_append]; exact hq⟩
    · exact ⟨s 15, fun B _ _ b pre post Q hq => by rw [(show Int32.ofNat 12 = 12 from rfl)]; simp [c, m1_0, m1_1_0, m1_1_1, m1_1_2, m1_1_3, m1_1_4, m1_1_5, m1_1_6, m1_1_7, m1_1_8, m1_1_9, m1_1_10, m1_1_11, m1_1_12, m1_1_13, m1_1_14, m1_76, m1_77, m1_80, m1_81, m1_82, m1_85, m1_86, m1_87, m1_90, m1_91, m1_92, m1_95, m1_96, m1_97, m1_100, m1_101, m1_102, m1_105, m1_106, m1_107, m1_110, m1_111, m1_112, m1_115, m1_116, m1_117, m1_120, m1_121, m1_122, m1_123, m1_126, m1_129, m1_130, m1_131, m1_132, m1_135, m1_138, m1_139, m1_140, m1_143, m1_146, m1_147, m1_150, m1_153, m1_154, m1_155, m1_156, m1_159, m1_162, m1_163, m1_166, m1_169, m1_170, m1_171, m1_172, m1_175, m1_176, m1_177, m1_180, m1_181, m1_182, nb0, nb1, ou_a, Option.toList_some, Option.toList_none, List.nil_append, List.cons_append]; exact hq⟩
  · exact ⟨s 12, fun B _ _ b pre post Q hq => by rw [(show Int32.ofNat 13 = 13 from rfl)]; simp [m1_0, m1_1_0, m1_1_1, m1_1_2, m1_1_3, m1_1_4, m1_1_5, m1_1_6, m1_1_7, m1_1_8, m1_1_9, m1_1_10, m1_1_11, m1_1_12, m1_1_13, m1_1_14, m1_76, m1_77, m1_80, m1_81, m1_82, m1_85, m1_86, m1_87, m1_90, m1_91, m1_92, m1_95, m1_96, m1_97, m1_100, m1_101, m1_102, m1_105, m1_106, m1_107, m1_110, m1_111, m1_112, m1_115, m1_116, m1_117, m1_120, m1_121, m1_122, m1_123, m1_126, m1_129, m1_130, m1_131, m1_132, m1_135, m1_138, m1_139, m1_140, m1_143, m1_146, m1_147, m1_150, m1_153, m1_154, m1_155, m1_156, m1_159, m1_162, m1_163, m1_166, m1_169, m1_170, m1_171, m1_172, m1_175, m1_176, m1_177, m1_180, m1_181, m1_182, nb0, nb1, ou_a, Option.toList_some, Option.toList_none, List.nil_append, List.cons_append]; exact hq⟩
  · exact ⟨s 0, fun B _ _ b pre post Q hq => by rw [(show Int32.ofNat 14 = 14 from rfl)]; simp [m1_0, m1_1_0, m1_1_1, m1_1_2, m1_1_3, m1_1_4, m1_1_5, m1_1_6, m1_1_7, m1_1_8, m1_1_9, m1_1_10, m1_1_11, m1_1_12, m1_1_13, m1_1_14, m1_76, m1_77, m1_80, m1_81, m1_82, m1_85, m1_86, m1_87, m1_90, m1_91, m1_92, m1_95, m1_96, m1_97, m1_100, m1_101, m1_102, m1_105, m1_106, m1_107, m1_110, m1_111, m1_112, m1_115, m1_116, m1_117, m1_120, m1_121, m1_122, m1_123, m1_126, m1_129, m1_130, m1_131, m1_132, m1_135, m1_138, m1_139, m1_140, m1_143, m1_146, m1_147, m1_150, m1_153, m1_154, m1_155, m1_156, m1_159, m1_162, m1_163, m1_166, m1_169, m1_170, m1_171, m1_172, m1_175, m1_176, m1_177, m1_180, m1_181, m1_182, nb0, nb1, ou_a, Option.toList_some, Option.toList_none, List.nil_append, List.cons_append]; exact hq⟩
  · exact ⟨-1, fun B _ _ b pre post Q hq => by rw [(show Int32.ofNat 15 = 15 from rfl), m1_0, m1_1_d (Or.inr (by decide))]; simp [m1_0, m1_1_0, m1_1_1, m1_1_2, m1_1_3, m1_1_4, m1_1_5, m1_1_6, m1_1_7, m1_1_8, m1_1_9, m1_1_10, m1_1_11, m1_1_12, m1_1_13, m1_1_14, m1_76, m1_77, m1_80, m1_81, m1_82, m1_85, m1_86, m1_87, m1_90, m1_91, m1_92, m1_95, m1_96, m1_97, m1_100, m1_101, m1_102, m1_105, m1_106, m1_107, m1_110, m1_111, m1_112, m1_115, m1_116, m1_117, m1_120, m1_121, m1_122, m1_123, m1_126, m1_129, m1_130, m1_131, m1_132, m1_135, m1_138, m1_139, m1_140, m1_143, m1_146, m1_147, m1_150, m1_153, m1_154, m1_155, m1_156, m1_159, m1_162, m1_163, m1_166, m1_169, m1_170, m1_171, m1_172, m1_175, m1_176, m1_177, m1_180, m1_181, m1_182, nb0, nb1, ou_a, Option.toList_some, Option.toList_none, List.nil_append, List.cons_append]; exact hq⟩
set_option maxRecDepth 1000000 in
set_option maxHeartbeats 20000000 in
theorem q4 (o : Int32) (o0 : ¬ o < 0) (o1 : o < 256) : ∃ v : Int32, ∀ (B : Nat → List Int32), LN B → (∀ j, j ≠ 9 → B j = A j) → ∀ (b : Nat) (pre post : AHeap) (Q : Option Value → AHeap → Prop), Q (some (.int v)) (put (b + 1) pre s B post) → M4 0 [.val (.ref (b + 1)), .val (.int o)] [] (put (b + 1) pre s B post) Q := by
  by_cases c : getA (A 7) o = 0
  · refine ⟨-1, fun B hB fr b pre post Q hq => ?_⟩
    have k7 := in_lt hB z7 o0 o1
    have e7 : getA (B 7) o = 0 := by rw [fr 7 (by decide)]; exact c
    simp [o0, o1, k7, e7, m4_0, m4_1, m4_2, m4_5, m4_8, m4_9, m4_10, m4_11, m4_14, m4_15, m4_16, m4_19, m4_20, m4_21, m4_22, m4_25, m4_26, m4_27, m5_0, m5_1, m5_4, m5_5, m5_8, m5_11, m5_12, m5_15, m5_16, nb0, nb1, ou_a, Option.toList_some, Option.toList_none, List.nil_append, List.cons_append]
    exact hq
  · refine ⟨getA (A 8) o, fun B hB fr b pre post Q hq => ?_⟩
    have k7 := in_lt hB z7 o0 o1
    have k8 := in_lt hB z8 o0 o1
    have e7 : ¬ getA (B 7) o = 0 := by rw [fr 7 (by decide)]; exact c
    have e8 : getA (B 8) o = getA (A 8) o := by rw [fr 8 (by decide)]
    simp [o0, o1, k7, k8, e7, e8, m4_0, m4_1, m4_2, m4_5, m4_8, m4_9, m4_10, m4_11, m4_14, m4_15, m4_16, m4_19, m4_20, m4_21, m4_22, m4_25, m4_26, m4_27, m5_0, m5_1, m5_4, m5_5, m5_8, m5_11, m5_12, m5_15, m5_16, nb0, nb1, ou_a, Option.toList_some, Option.toList_none, List.nil_append, List.cons_append]
    exact hq
set_option maxRecDepth 1000000 in
set_option maxHeartbeats 20000000 in
theorem q6 (o : Int32) (o0 : ¬ o < 0) (o1 : o < 64) : ∃ v : Int32, ∀ (B : Nat → List Int32), LN B → (∀ j, j ≠ 9 → B j = A j) → ∀ (b : Nat) (pre post : AHeap) (Q : Option Value → AHeap → Prop), Q (some (.int v)) (put (b + 1) pre s B post) → M6 0 [.val (.ref (b + 1)), .val (.int o)] [] (put (b + 1) pre s B post) Q := by
  have gv : ∀ (B : Nat → List Int32), LN B → (∀ j, j ≠ 9 → B j = A j) → inB o (B 10) ∧ getA (B 10) o = getA (A 10) o := fun B hB fr => ⟨in_lt hB z10 o0 o1, by rw [fr 10 (by decide)]⟩
  by_cases c : 64 < s 16
  · refine ⟨getA (A 10) o, fun B hB fr b pre post Q hq => ?_⟩
    have g := gv B hB fr
    simp [c, o0, o1, g, m6_0, m6_1, m6_2, m6_5, m6_8, m6_9, m6_10, m6_11, m6_14, m6_15, m6_16, m7_0, m7_1, m7_4u, m7_5, m7_6, m7_8, m7_11, m7_13i, m7_14, m7_15, m7_18, m7_19, m7_20, m7_23, m7_24, m7_27, m7_28, nb0, nb1, ou_a, Option.toList_some, Option.toList_none, List.nil_append, List.cons_append]
    exact hq
  by_cases d : o < s 16
  · refine ⟨getA (A 10) o, fun B hB fr b pre post Q hq => ?_⟩
    have g := gv B hB fr
    simp [c, d, o0, g, m6_0, m6_1, m6_2, m6_5, m6_8, m6_9, m6_10, m6_11, m6_14, m6_15, m6_16, m7_0, m7_1, m7_4u, m7_5, m7_6, m7_8, m7_11, m7_13i, m7_14, m7_15, m7_18, m7_19, m7_20, m7_23, m7_24, m7_27, m7_28, nb0, nb1, ou_a, Option.toList_some, Option.toList_none, List.nil_append, List.cons_append]
    exact hq
  · refine ⟨-1, fun B hB fr b pre post Q hq => ?_⟩
    simp [c, d, o0, m6_0, m6_1, m6_2, m6_5, m6_8, m6_9, m6_10, m6_11, m6_14, m6_15, m6_16, m7_0, m7_1, m7_4u, m7_5, m7_6, m7_8, m7_11, m7_13i, m7_14, m7_15, m7_18, m7_19, m7_20, m7_23, m7_24, m7_27, m7_28, nb0, nb1, ou_a, Option.toList_some, Option.toList_none, List.nil_append, List.cons_append]
    exact hq
set_option maxRecDepth 1000000 in
set_option maxHeartbeats 20000000 in
theorem q8 (o : Int32) (o0 : ¬ o < 0) (o1 : o < 64) : ∃ v : Int32, ∀ (B : Nat → List Int32), LN B → (∀ j, j ≠ 9 → B j = A j) → ∀ (b : Nat) (pre post : AHeap) (Q : Option Value → AHeap → Prop), Q (some (.int v)) (put (b + 1) pre s B post) → M8 0 [.val (.ref (b + 1)), .val (.int o)] [] (put (b + 1) pre s B post) Q := by
  have gv : ∀ (B : Nat → List Int32), LN B → (∀ j, j ≠ 9 → B j = A j) → inB o (B 11) ∧ getA (B 11) o = getA (A 11) o := fun B hB fr => ⟨in_lt hB z11 o0 o1, by rw [fr 11 (by decide)]⟩
  by_cases c : 64 < s 16
  · refine ⟨getA (A 11) o, fun B hB fr b pre post Q hq => ?_⟩
    have g := gv B hB fr
    simp [c, o0, o1, g, m8_0, m8_1, m8_2, m8_5, m8_8, m8_9, m8_10, m8_11, m8_14, m8_15, m8_16, m7_0, m7_1, m7_4u, m7_5, m7_6, m7_8, m7_11, m7_13i, m7_14, m7_15, m7_18, m7_19, m7_20, m7_23, m7_24, m7_27, m7_28, nb0, nb1, ou_a, Option.toList_some, Option.toList_none, List.nil_append, List.cons_append]
    exact hq
  by_cases d : o < s 16
  · refine ⟨getA (A 11) o, fun B hB fr b pre post Q hq => ?_⟩
    have g := gv B hB fr
    simp [c, d, o0, g, m8_0, m8_1, m8_2, m8_5, m8_8, m8_9, m8_10, m8_11, m8_14, m8_15, m8_16, m7_0, m7_1, m7_4u, m7_5, m7_6, m7_8, m7_11, m7_13i, m7_14, m7_15, m7_18, m7_19, m7_20, m7_23, m7_24, m7_27, m7_28, nb0, nb1, ou_a, Option.toList_some, Option.toList_none, List.nil_append, List.cons_append]
    exact hq
  · refine ⟨-1, fun B hB fr b pre post Q hq => ?_⟩
    simp [c, d, o0, m8_0, m8_1, m8_2, m8_5, m8_8, m8_9, m8_10, m8_11, m8_14, m8_15, m8_16, m7_0, m7_1, m7_4u, m7_5, m7_6, m7_8, m7_11, m7_13i, m7_14, m7_15, m7_18, m7_19, m7_20, m7_23, m7_24, m7_27, m7_28, nb0, nb1, ou_a, Option.toList_some, Option.toList_none, List.nil_append, List.cons_append]
    exact hq
end Run2
def tl (s : Nat → Int32) (A : Nat → List Int32) : AHeap := ((.object "StreamSigScanner", objv 14 s) :: (.array .int, (A 0).map Value.int) :: (.array .int, (A 1).map Value.int) :: (.array .int, (A 2).map Value.int) :: (.array .int, (A 3).map Value.int) :: (.array .int, (A 4).map Value.int) :: (.array .int, (A 5).map Value.int) :: (.array .int, (A 6).map Value.int) :: (.array .boolean, (A 7).map Value.int) :: (.array .int, (A 8).map Value.int) :: (.array .int, (A 9).map Value.int) :: (.array .int, (A 10).map Value.int) :: (.array .int, (A 11).map Value.int) :: [])
theorem vw {p : AHeap} {s t : Nat → Int32} {A B : Nat → List Int32} : put 1 p s A (tl t B) = put 14 (put 1 p s A []) t B [] := by
  have hl : (put 1 p s A []).length = 14 := by rw [put_len]; rfl
  have e : put 14 (put 1 p s A []) t B [] = put 1 p s A [] ++ tl t B := by
    show pad 14 (put 1 p s A []) ++ tl t B = _
    rw [pad_eq hl]
  rw [e]
  simp only [put, List.append_assoc, List.cons_append, List.nil_append]
def RL (s : Nat → Int32) (A B : Nat → List Int32) : Prop := LN A ∧ LN B ∧ (∀ j, j ≠ 9 → B j = A j) ∧ s 0 = 16 ∧ s 13 = 0 ∧ s 14 = -1 ∧ s 15 = 0 ∧ 0 ≤ (s 7).toInt ∧ (s 7).toInt ≤ 256 ∧ (s 1 = 0 → B = A)
section Same
variable {p : AHeap} {s : Nat → Int32} {A B : Nat → List Int32} {Q : Option Value → AHeap → Prop}
set_option maxRecDepth 1000000 in
set_option maxHeartbeats 20000000 in
theorem w61 (hA : LN A) (hB : LN B) (fr : ∀ j, j ≠ 9 → B j = A j) (hQ : Q (some (.int 1)) (put 1 p s A (tl s B))) : ∀ (n : Nat) (i : Int32), 0 ≤ i.toInt → i.toInt + n = 64 → M23 61 [.val (.ref 1), .val (.ref 14), .val (.int i)] [] (put 1 p s A (tl s B)) Q := by
  intro n
  induction n with
  | zero =>
    intro i i0 e
    have c : ¬ i < 64 := by rw [lt_i, i_64]; omega
    rw [m23_61]
    simp [c, m23_0, m23_1u, m23_3, m23_5, m23_8, m23_9, m23_10, m23_13, m23_14, m23_15, m23_18, m23_21, m23_22, m23_23, m23_26, m23_29, m23_30i, m23_32, m23_35, m23_38, m23_39, m23_40, m23_43, m23_44, m23_45, m23_48, m23_51, m23_52, m23_53, m23_56, m23_59, m23_60i, m23_62, m23_64, m23_67, m23_68, m23_69, m23_72, m23_73, m23_74, m23_77, m23_80, m23_81, m23_82, m23_85, m23_86, m23_87, m23_90, m23_93, m23_94, m23_95, m23_98, m23_101, m23_102, nb0, nb1, ou_a, Option.toList_some, Option.toList_none, List.nil_append, List.cons_append]
    exact hQ
  | succ n ih =>
    intro i i0 e
    have c : i < 64 := by rw [lt_i, i_64]; omega
    have ei := add1_i (a := i) (by omega)
    obtain ⟨v0, h0⟩ := q6 (s := s) (A := A) i (nn_i.mpr i0) c
    obtain ⟨v1, h1⟩ := q8 (s := s) (A := A) i (nn_i.mpr i0) c
    rw [m23_61]
    simp [c, m23_0, m23_1u, m23_3, m23_5, m23_8, m23_9, m23_10, m23_13, m23_14, m23_15, m23_18, m23_21, m23_22, m23_23, m23_26, m23_29, m23_30i, m23_32, m23_35, m23_38, m23_39, m23_40, m23_43, m23_44, m23_45, m23_48, m23_51, m23_52, m23_53, m23_56, m23_59, m23_60i, m23_62, m23_64, m23_67, m23_68, m23_69, m23_72, m23_73, m23_74, m23_77, m23_80, m23_81, m23_82, m23_85, m23_86, m23_87, m23_90, m23_93, m23_94, m23_95, m23_98, m23_101, m23_102, nb0, nb1, ou_a, Option.toList_some, Option.toList_none, List.nil_append, List.cons_append]
    refine h0 A hA (fun _ _ => rfl) 0 p _ _ ?_
    simp [m23_0, m23_1u, m23_3, m23_5, m23_8, m23_9, m23_10, m23_13, m23_14, m23_15, m23_18, m23_21, m23_22, m23_23, m23_26, m23_29, m23_30i, m23_32, m23_35, m23_38, m23_39, m23_40, m23_43, m23_44, m23_45, m23_48, m23_51, m23_52, m23_53, m23_56, m23_59, m23_60i, m23_62, m23_64, m23_67, m23_68, m23_69, m23_72, m23_73, m23_74, m23_77, m23_80, m23_81, m23_82, m23_85, m23_86, m23_87, m23_90, m23_93, m23_94, m23_95, m23_98, m23_101, m23_102, nb0, nb1, ou_a, Option.toList_some, Option.toList_none, List.nil_append, List.cons_append]
    rw [vw]
    simp [m23_0, m23_1u, m23_3, m23_5, m23_8, m23_9, m23_10, m23_13, m23_14, m23_15, m23_18, m23_21, m23_22, m23_23, m23_26, m23_29, m23_30i, m23_32, m23_35, m23_38, m23_39, m23_40, m23_43, m23_44, m23_45, m23_48, m23_51, m23_52, m23_53, m23_56, m23_59, m23_60i, m23_62, m23_64, m23_67, m23_68, m23_69, m23_72, m23_73, m23_74, m23_77, m23_80, m23_81, m23_82, m23_85, m23_86, m23_87, m23_90, m23_93, m23_94, m23_95, m23_98, m23_101, m23_102, nb0, nb1, ou_a, Option.toList_some, Option.toList_none, List.nil_append, List.cons_append]
    refine h0 B hB fr 13 _ _ _ ?_
    simp [m23_0, m23_1u, m23_3, m23_5, m23_8, m23_9, m23_10, m23_13, m23_14, m23_15, m23_18, m23_21, m23_22, m23_23, m23_26, m23_29, m23_30i, m23_32, m23_35, m23_38, m23_39, m23_40, m23_43, m23_44, m23_45, m23_48, m23_51, m23_52, m23_53, m23_56, m23_59, m23_60i, m23_62, m23_64, m23_67, m23_68, m23_69, m23_72, m23_73, m23_74, m23_77, m23_80, m23_81, m23_82, m23_85, m23_86, m23_87, m23_90, m23_93, m23_94, m23_95, m23_98, m23_101, m23_102, nb0, nb1, ou_a, Option.toList_some, Option.toList_none, List.nil_append, List.cons_append]
    rw [← vw]
    simp [m23_0, m23_1u, m23_3, m23_5, m23_8, m23_9, m23_10, m23_13, m23_14, m23_15, m23_18, m23_21, m23_22, m23_23, m23_26, m23_29, m23_30i, m23_32, m23_35, m23_38, m23_39, m23_40, m23_43, m23_44, m23_45, m23_48, m23_51, m23_52, m23_53, m23_56, m23_59, m23_60i, m23_62, m23_64, m23_67, m23_68, m23_69, m23_72, m23_73, m23_74, m23_77, m23_80, m23_81, m23_82, m23_85, m23_86, m23_87, m23_90, m23_93, m23_94, m23_95, m23_98, m23_101, m23_102, nb0, nb1, ou_a, Option.toList_some, Option.toList_none, List.nil_append, List.cons_append]
    refine h1 A hA (fun _ _ => rfl) 0 p _ _ ?_
    simp [m23_0, m23_1u, m23_3, m23_5, m23_8, m23_9, m23_10, m23_13, m23_14, m23_15, m23_18, m23_21, m23_22, m23_23, m23_26, m23_29, m23_30i, m23_32, m23_35, m23_38, m23_39, m23_40, m23_43, m23_44, m23_45, m23_48, m23_51, m23_52, m23_53, m23_56, m23_59, m23_60i, m23_62, m23_64, m23_67, m23_68, m23_69, m23_72, m23_73, m23_74, m23_77, m23_80, m23_81, m23_82, m23_85, m23_86, m23_87, m23_90, m23_93, m23_94, m23_95, m23_98, m23_101, m23_102, nb0, nb1, ou_a, Option.toList_some, Option.toList_none, List.nil_append, List.cons_append]
    rw [vw]
    simp [m23_0, m23_1u, m23_3, m23_5, m23_8, m23_9, m23_10, m23_13, m23_14, m23_15, m23_18, m23_21, m23_22, m23_23, m23_26, m23_29, m23_30i, m23_32, m23_35, m23_38, m23_39, m23_40, m23_43, m23_44, m23_45, m23_48, m23_51, m23_52, m23_53, m23_56, m23_59, m23_60i, m23_62, m23_64, m23_67, m23_68, m23_69, m23_72, m23_73, m23_74, m23_77, m23_80, m23_81, m23_82, m23_85, m23_86, m23_87, m23_90, m23_93, m23_94, m23_95, m23_98, m23_101, m23_102, nb0, nb1, ou_a, Option.toList_some, Option.toList_none, List.nil_append, List.cons_append]
    refine h1 B hB fr 13 _ _ _ ?_
    simp [m23_0, m23_1u, m23_3, m23_5, m23_8, m23_9, m23_10, m23_13, m23_14, m23_15, m23_18, m23_21, m23_22, m23_23, m23_26, m23_29, m23_30i, m23_32, m23_35, m23_38, m23_39, m23_40, m23_43, m23_44, m23_45, m23_48, m23_51, m23_52, m23_53, m23_56, m23_59, m23_60i, m23_62, m23_64, m23_67, m23_68, m23_69, m23_72, m23_73, m23_74, m23_77, m23_80, m23_81, m23_82, m23_85, m23_86, m23_87, m23_90, m23_93, m23_94, m23_95, m23_98, m23_101, m23_102, nb0, nb1, ou_a, Option.toList_some, Option.toList_none, List.nil_append, List.cons_append]
    rw [← vw]
    exact ih (i + 1) (by omega) (by omega)
set_option maxRecDepth 1000000 in
set_option maxHeartbeats 20000000 in
theorem w31 (hA : LN A) (hB : LN B) (fr : ∀ j, j ≠ 9 → B j = A j) (hQ : Q (some (.int 1)) (put 1 p s A (tl s B))) : ∀ (n : Nat) (i : Int32), 0 ≤ i.toInt → i.toInt + n = 256 → M23 31 [.val (.ref 1), .val (.ref 14), .val (.int i)] [] (put 1 p s A (tl s B)) Q := by
  intro n
  induction n with
  | zero =>
    intro i i0 e
    have c : ¬ i < 256 := by rw [lt_i, i_256]; omega
    rw [m23_31]
    simp [c, m23_0, m23_1u, m23_3, m23_5, m23_8, m23_9, m23_10, m23_13, m23_14, m23_15, m23_18, m23_21, m23_22, m23_23, m23_26, m23_29, m23_30i, m23_32, m23_35, m23_38, m23_39, m23_40, m23_43, m23_44, m23_45, m23_48, m23_51, m23_52, m23_53, m23_56, m23_59, m23_60i, m23_62, m23_64, m23_67, m23_68, m23_69, m23_72, m23_73, m23_74, m23_77, m23_80, m23_81, m23_82, m23_85, m23_86, m23_87, m23_90, m23_93, m23_94, m23_95, m23_98, m23_101, m23_102, nb0, nb1, ou_a, Option.toList_some, Option.toList_none, List.nil_append, List.cons_append]
    exact w61 hA hB fr hQ 64 0 (by decide) rfl
  | succ n ih =>
    intro i i0 e
    have c : i < 256 := by rw [lt_i, i_256]; omega
    have ei := add1_i (a := i) (by omega)
    obtain ⟨v0, h0⟩ := q4 (s := s) (A := A) i (nn_i.mpr i0) c
    rw [m23_31]
    simp [c, m23_0, m23_1u, m23_3, m23_5, m23_8, m23_9, m23_10, m23_13, m23_14, m23_15, m23_18, m23_21, m23_22, m23_23, m23_26, m23_29, m23_30i, m23_32, m23_35, m23_38, m23_39, m23_40, m23_43, m23_44, m23_45, m23_48, m23_51, m23_52, m23_53, m23_56, m23_59, m23_60i, m23_62, m23_64, m23_67, m23_68, m23_69, m23_72, m23_73, m23_74, m23_77, m23_80, m23_81, m23_82, m23_85, m23_86, m23_87, m23_90, m23_93, m23_94, m23_95, m23_98, m23_101, m23_102, nb0, nb1, ou_a, Option.toList_some, Option.toList_none, List.nil_append, List.cons_append]
    refine h0 A hA (fun _ _ => rfl) 0 p _ _ ?_
    simp [m23_0, m23_1u, m23_3, m23_5, m23_8, m23_9, m23_10, m23_13, m23_14, m23_15, m23_18, m23_21, m23_22, m23_23, m23_26, m23_29, m23_30i, m23_32, m23_35, m23_38, m23_39, m23_40, m23_43, m23_44, m23_45, m23_48, m23_51, m23_52, m23_53, m23_56, m23_59, m23_60i, m23_62, m23_64, m23_67, m23_68, m23_69, m23_72, m23_73, m23_74, m23_77, m23_80, m23_81, m23_82, m23_85, m23_86, m23_87, m23_90, m23_93, m23_94, m23_95, m23_98, m23_101, m23_102, nb0, nb1, ou_a, Option.toList_some, Option.toList_none, List.nil_append, List.cons_append]
    rw [vw]
    simp [m23_0, m23_1u, m23_3, m23_5, m23_8, m23_9, m23_10, m23_13, m23_14, m23_15, m23_18, m23_21, m23_22, m23_23, m23_26, m23_29, m23_30i, m23_32, m23_35, m23_38, m23_39, m23_40, m23_43, m23_44, m23_45, m23_48, m23_51, m23_52, m23_53, m23_56, m23_59, m23_60i, m23_62, m23_64, m23_67, m23_68, m23_69, m23_72, m23_73, m23_74, m23_77, m23_80, m23_81, m23_82, m23_85, m23_86, m23_87, m23_90, m23_93, m23_94, m23_95, m23_98, m23_101, m23_102, nb0, nb1, ou_a, Option.toList_some, Option.toList_none, List.nil_append, List.cons_append]
    refine h0 B hB fr 13 _ _ _ ?_
    simp [m23_0, m23_1u, m23_3, m23_5, m23_8, m23_9, m23_10, m23_13, m23_14, m23_15, m23_18, m23_21, m23_22, m23_23, m23_26, m23_29, m23_30i, m23_32, m23_35, m23_38, m23_39, m23_40, m23_43, m23_44, m23_45, m23_48, m23_51, m23_52, m23_53, m23_56, m23_59, m23_60i, m23_62, m23_64, m23_67, m23_68, m23_69, m23_72, m23_73, m23_74, m23_77, m23_80, m23_81, m23_82, m23_85, m23_86, m23_87, m23_90, m23_93, m23_94, m23_95, m23_98, m23_101, m23_102, nb0, nb1, ou_a, Option.toList_some, Option.toList_none, List.nil_append, List.cons_append]
    rw [← vw]
    exact ih (i + 1) (by omega) (by omega)
set_option maxRecDepth 1000000 in
set_option maxHeartbeats 20000000 in
theorem w2 (hA : LN A) (hB : LN B) (fr : ∀ j, j ≠ 9 → B j = A j) (hQ : Q (some (.int 1)) (put 1 p s A (tl s B))) : ∀ (n : Nat) (i : Int32), 0 ≤ i.toInt → i.toInt + n = 16 → M23 2 [.val (.ref 1), .val (.ref 14), .val (.int i)] [] (put 1 p s A (tl s B)) Q := by
  intro n
  induction n with
  | zero =>
    intro i i0 e
    have c : 15 < i := by rw [lt_i, i_15]; omega
    rw [m23_2]
    simp [c, m23_0, m23_1u, m23_3, m23_5, m23_8, m23_9, m23_10, m23_13, m23_14, m23_15, m23_18, m23_21, m23_22, m23_23, m23_26, m23_29, m23_30i, m23_32, m23_35, m23_38, m23_39, m23_40, m23_43, m23_44, m23_45, m23_48, m23_51, m23_52, m23_53, m23_56, m23_59, m23_60i, m23_62, m23_64, m23_67, m23_68, m23_69, m23_72, m23_73, m23_74, m23_77, m23_80, m23_81, m23_82, m23_85, m23_86, m23_87, m23_90, m23_93, m23_94, m23_95, m23_98, m23_101, m23_102, nb0, nb1, ou_a, Option.toList_some, Option.toList_none, List.nil_append, List.cons_append]
    exact w31 hA hB fr hQ 256 0 (by decide) rfl
  | succ n ih =>
    intro i i0 e
    have c : ¬ 15 < i := by rw [lt_i, i_15]; omega
    have ei := add1_i (a := i) (by omega)
    obtain ⟨v0, h0⟩ := q1 (s := s) (A := A) i i0 (by omega)
    rw [m23_2]
    simp [c, m23_0, m23_1u, m23_3, m23_5, m23_8, m23_9, m23_10, m23_13, m23_14, m23_15, m23_18, m23_21, m23_22, m23_23, m23_26, m23_29, m23_30i, m23_32, m23_35, m23_38, m23_39, m23_40, m23_43, m23_44, m23_45, m23_48, m23_51, m23_52, m23_53, m23_56, m23_59, m23_60i, m23_62, m23_64, m23_67, m23_68, m23_69, m23_72, m23_73, m23_74, m23_77, m23_80, m23_81, m23_82, m23_85, m23_86, m23_87, m23_90, m23_93, m23_94, m23_95, m23_98, m23_101, m23_102, nb0, nb1, ou_a, Option.toList_some, Option.toList_none, List.nil_append, List.cons_append]
    refine h0 A hA (fun _ _ => rfl) 0 p _ _ ?_
    simp [m23_0, m23_1u, m23_3, m23_5, m23_8, m23_9, m23_10, m23_13, m23_14, m23_15, m23_18, m23_21, m23_22, m23_23, m23_26, m23_29, m23_30i, m23_32, m23_35, m23_38, m23_39, m23_40, m23_43, m23_44, m23_45, m23_48, m23_51, m23_52, m23_53, m23_56, m23_59, m23_60i, m23_62, m23_64, m23_67, m23_68, m23_69, m23_72, m23_73, m23_74, m23_77, m23_80, m23_81, m23_82, m23_85, m23_86, m23_87, m23_90, m23_93, m23_94, m23_95, m23_98, m23_101, m23_102, nb0, nb1, ou_a, Option.toList_some, Option.toList_none, List.nil_append, List.cons_append]
    rw [vw]
    simp [m23_0, m23_1u, m23_3, m23_5, m23_8, m23_9, m23_10, m23_13, m23_14, m23_15, m23_18, m23_21, m23_22, m23_23, m23_26, m23_29, m23_30i, m23_32, m23_35, m23_38, m23_39, m23_40, m23_43, m23_44, m23_45, m23_48, m23_51, m23_52, m23_53, m23_56, m23_59, m23_60i, m23_62, m23_64, m23_67, m23_68, m23_69, m23_72, m23_73, m23_74, m23_77, m23_80, m23_81, m23_82, m23_85, m23_86, m23_87, m23_90, m23_93, m23_94, m23_95, m23_98, m23_101, m23_102, nb0, nb1, ou_a, Option.toList_some, Option.toList_none, List.nil_append, List.cons_append]
    refine h0 B hB fr 13 _ _ _ ?_
    simp [m23_0, m23_1u, m23_3, m23_5, m23_8, m23_9, m23_10, m23_13, m23_14, m23_15, m23_18, m23_21, m23_22, m23_23, m23_26, m23_29, m23_30i, m23_32, m23_35, m23_38, m23_39, m23_40, m23_43, m23_44, m23_45, m23_48, m23_51, m23_52, m23_53, m23_56, m23_59, m23_60i, m23_62, m23_64, m23_67, m23_68, m23_69, m23_72, m23_73, m23_74, m23_77, m23_80, m23_81, m23_82, m23_85, m23_86, m23_87, m23_90, m23_93, m23_94, m23_95, m23_98, m23_101, m23_102, nb0, nb1, ou_a, Option.toList_some, Option.toList_none, List.nil_append, List.cons_append]
    rw [← vw]
    exact ih (i + 1) (by omega) (by omega)
theorem w23 (hA : LN A) (hB : LN B) (fr : ∀ j, j ≠ 9 → B j = A j) (hQ : Q (some (.int 1)) (put 1 p s A (tl s B))) : M23 0 [.val (.ref 1), .val (.ref 14), .unset] [] (put 1 p s A (tl s B)) Q := by
  simp [m23_0, m23_1u, m23_3, m23_5, m23_8, m23_9, m23_10, m23_13, m23_14, m23_15, m23_18, m23_21, m23_22, m23_23, m23_26, m23_29, m23_30i, m23_32, m23_35, m23_38, m23_39, m23_40, m23_43, m23_44, m23_45, m23_48, m23_51, m23_52, m23_53, m23_56, m23_59, m23_60i, m23_62, m23_64, m23_67, m23_68, m23_69, m23_72, m23_73, m23_74, m23_77, m23_80, m23_81, m23_82, m23_85, m23_86, m23_87, m23_90, m23_93, m23_94, m23_95, m23_98, m23_101, m23_102, nb0, nb1, ou_a, Option.toList_some, Option.toList_none, List.nil_append, List.cons_append]
  exact w2 hA hB fr hQ 16 0 (by decide) rfl
end Same
def LP (vs : List Int32) (Q : Option Value → AHeap → Prop) (n : Nat) : Prop := ∀ (ix : Int32) (k4 k5 k6 k7 k8 k9 k10 k11 k12 k13 k14 k15 k16 k17 : Slot) (s : Nat → Int32) (A B : Nat → List Int32), okS k4 → okS k5 → okS k6 → okS k7 → okS k8 → okS k9 → okS k10 → okS k11 → okS k12 → okS k13 → okS k14 → okS k15 → okS k16 → okS k17 → RL s A B → 0 ≤ ix.toInt → ix.toInt ≤ 1000 → (vs.length : Int) ≤ ix.toInt + n → M25 22 [.val (.ref 0), .val (.ref 1), .val (.ref 14), .val (.int ix), k4, k5, k6, k7, k8, k9, k10, k11, k12, k13, k14, k15, k16, k17] [] (put 1 [(.array .int, vs.map Value.int)] s A (tl s B)) Q
theorem and3 (x : Int32) : x &&& 3 = 0 ∨ x &&& 3 = 1 ∨ x &&& 3 = 2 ∨ x &&& 3 = 3 := by
  have b := and_bd x 3 (by decide)
  have c : (x &&& 3).toInt ≤ 3 := b.2
  obtain ⟨k, hk, e⟩ := rng (n := 4) b.1 (by omega)
  have hk' : k = 0 ∨ k = 1 ∨ k = 2 ∨ k = 3 := by omega
  rw [e]
  rcases hk' with rfl | rfl | rfl | rfl <;> decide
section Law
variable {Q : Option Value → AHeap → Prop} {vs : List Int32}
set_option maxRecDepth 1000000 in
set_option maxHeartbeats 20000000 in
theorem tail {n : Nat} (lp : LP vs Q n) {ix : Int32} {k4 k5 k6 k7 k8 k9 k10 k11 k12 k13 k14 k15 k16 k17 : Slot} {s : Nat → Int32} {A B : Nat → List Int32} (o4 : okS k4) (o5 : okS k5) (o6 : okS k6) (o7 : okS k7) (o8 : okS k8) (o9 : okS k9) (o10 : okS k10) (o11 : okS k11) (o12 : okS k12) (o13 : okS k13) (o14 : okS k14) (o15 : okS k15) (o16 : okS k16) (o17 : okS k17) (r : RL s A B) (hx1 : 0 ≤ ix.toInt) (hx2 : ix.toInt + 4 ≤ 1000) (hx3 : (vs.length : Int) ≤ ix.toInt + 4 + n) : M25 383 [.val (.ref 0), .val (.ref 1), .val (.ref 14), .val (.int ix), k4, k5, k6, k7, k8, k9, k10, k11, k12, k13, k14, k15, k16, k17] [] (put 1 [(.array .int, vs.map Value.int)] s A (tl s B)) Q := by
  have x4 : (ix + 4).toInt = ix.toInt + 4 := add_i (by rw [i_4]; omega) (by rw [i_4]; omega)
  simp [m25_383, m25_384, m25_385, nb0, nb1, ou_a, Option.toList_some, Option.toList_none, List.nil_append, List.cons_append]
  refine w23 r.1 r.2.1 r.2.2.1 ?_
  simp [m25_388, m25_391, m25_392, m25_393, m25_396, nb0, nb1, ou_a, Option.toList_some, Option.toList_none, List.nil_append, List.cons_append]
  exact lp _ _ _ _ _ _ _ _ _ _ _ _ _ _ _ s A B o4 o5 o6 o7 o8 o9 o10 o11 o12 o13 o14 o15 o16 o17 r (by rw [x4]; omega) (by rw [x4]; omega) (by rw [x4]; omega)
set_option maxRecDepth 1000000 in
set_option maxHeartbeats 20000000 in
theorem op0 {n : Nat} (lp : LP vs Q n) {ix : Int32} {k4 k5 k6 k7 k8 k9 k10 k11 k12 k13 k14 k15 k16 k17 : Slot} {s : Nat → Int32} {A B : Nat → List Int32} (o4 : okS k4) (o5 : okS k5) (o6 : okS k6) (o7 : okS k7) (o8 : okS k8) (o9 : okS k9) (o10 : okS k10) (o11 : okS k11) (o12 : okS k12) (o13 : okS k13) (o14 : okS k14) (o15 : okS k15) (o16 : okS k16) (o17 : okS k17) (r : RL s A B) (hx1 : 0 ≤ ix.toInt) (hx2 : ix.toInt + 4 ≤ 1000) (hx3 : (vs.length : Int) ≤ ix.toInt + 4 + n) (x0 : inB ix vs) (x1 : inB (ix + 1) vs) (x2 : inB (ix + 2) vs) (x3 : inB (ix + 3) vs) (ha : getA vs ix &&& 3 = 0) : M25 30 [.val (.ref 0), .val (.ref 1), .val (.ref 14), .val (.int ix), k4, k5, k6, k7, k8, k9, k10, k11, k12, k13, k14, k15, k16, k17] [] (put 1 [(.array .int, vs.map Value.int)] s A (tl s B)) Q := by
  have r' := r
  obtain ⟨hA, hB, fr, e0, e13, e14, e15, p7, q7, h1⟩ := r
  by_cases c1 : s 1 = 0
  · have eb := h1 c1
    rw [eb]
    simp [x0, x1, x2, x3, ha, okS_i, o4, o5, o6, o7, o8, o9, o10, o11, o12, o13, o14, o15, o16, o17, -Int64.toInt32_and, -Int64.toInt32_or, -Int64.toInt32_xor, -Int32.toInt64_and, -Int32.toInt64_or, -Int32.toInt64_xor, -Int32.toInt8_and, -Int32.toUInt32_and, -Int32.toUInt32_or, -Int32.toUInt32_xor, m25_30, m25_31, m25_32, m25_32p, m25_33, m25_34, m25_35u, m25_35i, m25_35r, m25_35g, m25_37, m25_38, m25_39, m25_40, m25_41, m25_41p, m25_42u, m25_42i, m25_42r, m25_42g, m25_44, m25_45, m25_46, m25_47, m25_48, m25_48p, m25_49u, m25_49i, m25_49r, m25_49g, m25_51, m25_52, m25_53, m25_54, m25_55, m25_55p, m25_56u, m25_56i, m25_56r, m25_56g, m25_58, m25_60, m25_63, m25_65, m25_67, m25_68, m25_69, m25_70, m25_71, m25_72u, m25_72i, m25_72r, m25_72g, m25_74, m25_75, m25_77, m25_80u, m25_80i, m25_80r, m25_80g, m25_82, m25_83, m25_85, m25_88u, m25_88i, m25_88r, m25_88g, m25_90, m25_92, m25_94, m25_97, m25_98, m25_99, nb0, nb1, ou_a, Option.toList_some, Option.toList_none, List.nil_append, List.cons_append]
    obtain ⟨v, s', A', ⟨g1, g2⟩, hv⟩ := d10 (s := s) hA ((getA vs (ix + 1) &&& 7) % 5 - 1)
    refine hv 0 _ _ _ ?_
    simp [okS_i, o4, o5, o6, o7, o8, o9, o10, o11, o12, o13, o14, o15, o16, o17, m25_30, m25_31, m25_32, m25_32p, m25_33, m25_34, m25_35u, m25_35i, m25_35r, m25_35g, m25_37, m25_38, m25_39, m25_40, m25_41, m25_41p, m25_42u, m25_42i, m25_42r, m25_42g, m25_44, m25_45, m25_46, m25_47, m25_48, m25_48p, m25_49u, m25_49i, m25_49r, m25_49g, m25_51, m25_52, m25_53, m25_54, m25_55, m25_55p, m25_56u, m25_56i, m25_56r, m25_56g, m25_58, m25_60, m25_63, m25_65, m25_67, m25_68, m25_69, m25_70, m25_71, m25_72u, m25_72i, m25_72r, m25_72g, m25_74, m25_75, m25_77, m25_80u, m25_80i, m25_80r, m25_80g, m25_82, m25_83, m25_85, m25_88u, m25_88i, m25_88r, m25_88g, m25_90, m25_92, m25_94, m25_97, m25_98, m25_99, nb0, nb1, ou_a, Option.toList_some, Option.toList_none, List.nil_append, List.cons_append]
    rw [vw]
    simp [okS_i, o4, o5, o6, o7, o8, o9, o10, o11, o12, o13, o14, o15, o16, o17, m25_30, m25_31, m25_32, m25_32p, m25_33, m25_34, m25_35u, m25_35i, m25_35r, m25_35g, m25_37, m25_38, m25_39, m25_40, m25_41, m25_41p, m25_42u, m25_42i, m25_42r, m25_42g, m25_44, m25_45, m25_46, m25_47, m25_48, m25_48p, m25_49u, m25_49i, m25_49r, m25_49g, m25_51, m25_52, m25_53, m25_54, m25_55, m25_55p, m25_56u, m25_56i, m25_56r, m25_56g, m25_58, m25_60, m25_63, m25_65, m25_67, m25_68, m25_69, m25_70, m25_71, m25_72u, m25_72i, m25_72r, m25_72g, m25_74, m25_75, m25_77, m25_80u, m25_80i, m25_80r, m25_80g, m25_82, m25_83, m25_85, m25_88u, m25_88i, m25_88r, m25_88g, m25_90, m25_92, m25_94, m25_97, m25_98, m25_99, nb0, nb1, ou_a, Option.toList_some, Option.toList_none, List.nil_append, List.cons_append]
    refine hv 13 _ _ _ ?_
    simp [okS_i, o4, o5, o6, o7, o8, o9, o10, o11, o12, o13, o14, o15, o16, o17, m25_30, m25_31, m25_32, m25_32p, m25_33, m25_34, m25_35u, m25_35i, m25_35r, m25_35g, m25_37, m25_38, m25_39, m25_40, m25_41, m25_41p, m25_42u, m25_42i, m25_42r, m25_42g, m25_44, m25_45, m25_46, m25_47, m25_48, m25_48p, m25_49u, m25_49i, m25_49r, m25_49g, m25_51, m25_52, m25_53, m25_54, m25_55, m25_55p, m25_56u, m25_56i, m25_56r, m25_56g, m25_58, m25_60, m25_63, m25_65, m25_67, m25_68, m25_69, m25_70, m25_71, m25_72u, m25_72i, m25_72r, m25_72g, m25_74, m25_75, m25_77, m25_80u, m25_80i, m25_80r, m25_80g, m25_82, m25_83, m25_85, m25_88u, m25_88i, m25_88r, m25_88g, m25_90, m25_92, m25_94, m25_97, m25_98, m25_99, nb0, nb1, ou_a, Option.toList_some, Option.toList_none, List.nil_append, List.cons_append]
    rw [← vw]
    exact tail lp (okS_i _) (okS_i _) (okS_i _) (okS_i _) (okS_i _) (okS_i _) (okS_i _) o11 o12 o13 o14 o15 o16 o17 ⟨g1, g1, fun _ _ => rfl, (g2 0 (by decide) (by decide) (by decide) (by decide) (by decide) (by decide)).trans e0, (g2 13 (by decide) (by decide) (by decide) (by decide) (by decide) (by decide)).trans e13, (g2 14 (by decide) (by decide) (by decide) (by decide) (by decide) (by decide)).trans e14, (g2 15 (by decide) (by decide) (by decide) (by decide) (by decide) (by decide)).trans e15, by rw [g2 7 (by decide) (by decide) (by decide) (by decide) (by decide) (by decide)]; exact p7, by rw [g2 7 (by decide) (by decide) (by decide) (by decide) (by decide) (by decide)]; exact q7, fun _ => rfl⟩ hx1 hx2 hx3
  · simp [x0, x1, x2, x3, ha, okS_i, o4, o5, o6, o7, o8, o9, o10, o11, o12, o13, o14, o15, o16, o17, -Int64.toInt32_and, -Int64.toInt32_or, -Int64.toInt32_xor, -Int32.toInt64_and, -Int32.toInt64_or, -Int32.toInt64_xor, -Int32.toInt8_and, -Int32.toUInt32_and, -Int32.toUInt32_or, -Int32.toUInt32_xor, m25_30, m25_31, m25_32, m25_32p, m25_33, m25_34, m25_35u, m25_35i, m25_35r, m25_35g, m25_37, m25_38, m25_39, m25_40, m25_41, m25_41p, m25_42u, m25_42i, m25_42r, m25_42g, m25_44, m25_45, m25_46, m25_47, m25_48, m25_48p, m25_49u, m25_49i, m25_49r, m25_49g, m25_51, m25_52, m25_53, m25_54, m25_55, m25_55p, m25_56u, m25_56i, m25_56r, m25_56g, m25_58, m25_60, m25_63, m25_65, m25_67, m25_68, m25_69, m25_70, m25_71, m25_72u, m25_72i, m25_72r, m25_72g, m25_74, m25_75, m25_77, m25_80u, m25_80i, m25_80r, m25_80g, m25_82, m25_83, m25_85, m25_88u, m25_88i, m25_88r, m25_88g, m25_90, m25_92, m25_94, m25_97, m25_98, m25_99, nb0, nb1, ou_a, Option.toList_some, Option.toList_none, List.nil_append, List.cons_append]
    refine c10n c1 0 _ _ _ ?_
    simp [okS_i, o4, o5, o6, o7, o8, o9, o10, o11, o12, o13, o14, o15, o16, o17, m25_30, m25_31, m25_32, m25_32p, m25_33, m25_34, m25_35u, m25_35i, m25_35r, m25_35g, m25_37, m25_38, m25_39, m25_40, m25_41, m25_41p, m25_42u, m25_42i, m25_42r, m25_42g, m25_44, m25_45, m25_46, m25_47, m25_48, m25_48p, m25_49u, m25_49i, m25_49r, m25_49g, m25_51, m25_52, m25_53, m25_54, m25_55, m25_55p, m25_56u, m25_56i, m25_56r, m25_56g, m25_58, m25_60, m25_63, m25_65, m25_67, m25_68, m25_69, m25_70, m25_71, m25_72u, m25_72i, m25_72r, m25_72g, m25_74, m25_75, m25_77, m25_80u, m25_80i, m25_80r, m25_80g, m25_82, m25_83, m25_85, m25_88u, m25_88i, m25_88r, m25_88g, m25_90, m25_92, m25_94, m25_97, m25_98, m25_99, nb0, nb1, ou_a, Option.toList_some, Option.toList_none, List.nil_append, List.cons_append]
    rw [vw]
    simp [okS_i, o4, o5, o6, o7, o8, o9, o10, o11, o12, o13, o14, o15, o16, o17, m25_30, m25_31, m25_32, m25_32p, m25_33, m25_34, m25_35u, m25_35i, m25_35r, m25_35g, m25_37, m25_38, m25_39, m25_40, m25_41, m25_41p, m25_42u, m25_42i, m25_42r, m25_42g, m25_44, m25_45, m25_46, m25_47, m25_48, m25_48p, m25_49u, m25_49i, m25_49r, m25_49g, m25_51, m25_52, m25_53, m25_54, m25_55, m25_55p, m25_56u, m25_56i, m25_56r, m25_56g, m25_58, m25_60, m25_63, m25_65, m25_67, m25_68, m25_69, m25_70, m25_71, m25_72u, m25_72i, m25_72r, m25_72g, m25_74, m25_75, m25_77, m25_80u, m25_80i, m25_80r, m25_80g, m25_82, m25_83, m25_85, m25_88u, m25_88i, m25_88r, m25_88g, m25_90, m25_92, m25_94, m25_97, m25_98, m25_99, nb0, nb1, ou_a, Option.toList_some, Option.toList_none, List.nil_append, List.cons_append]
    refine c10n c1 13 _ _ _ ?_
    simp [okS_i, o4, o5, o6, o7, o8, o9, o10, o11, o12, o13, o14, o15, o16, o17, m25_30, m25_31, m25_32, m25_32p, m25_33, m25_34, m25_35u, m25_35i, m25_35r, m25_35g, m25_37, m25_38, m25_39, m25_40, m25_41, m25_41p, m25_42u, m25_42i, m25_42r, m25_42g, m25_44, m25_45, m25_46, m25_47, m25_48, m25_48p, m25_49u, m25_49i, m25_49r, m25_49g, m25_51, m25_52, m25_53, m25_54, m25_55, m25_55p, m25_56u, m25_56i, m25_56r, m25_56g, m25_58, m25_60, m25_63, m25_65, m25_67, m25_68, m25_69, m25_70, m25_71, m25_72u, m25_72i, m25_72r, m25_72g, m25_74, m25_75, m25_77, m25_80u, m25_80i, m25_80r, m25_80g, m25_82, m25_83, m25_85, m25_88u, m25_88i, m25_88r, m25_88g, m25_90, m25_92, m25_94, m25_97, m25_98, m25_99, nb0, nb1, ou_a, Option.toList_some, Option.toList_none, List.nil_append, List.cons_append]
    rw [← vw]
    exact tail lp (okS_i _) (okS_i _) (okS_i _) (okS_i _) (okS_i _) (okS_i _) (okS_i _) o11 o12 o13 o14 o15 o16 o17 r' hx1 hx2 hx3
set_option maxRecDepth 1000000 in
set_option maxHeartbeats 20000000 in
theorem op1 {n : Nat} (lp : LP vs Q n) {ix : Int32} {k4 k5 k6 k7 k8 k9 k10 k11 k12 k13 k14 k15 k16 k17 : Slot} {s : Nat → Int32} {A B : Nat → List Int32} (o4 : okS k4) (o5 : okS k5) (o6 : okS k6) (o7 : okS k7) (o8 : okS k8) (o9 : okS k9) (o10 : okS k10) (o11 : okS k11) (o12 : okS k12) (o13 : okS k13) (o14 : okS k14) (o15 : okS k15) (o16 : okS k16) (o17 : okS k17) (r : RL s A B) (hx1 : 0 ≤ ix.toInt) (hx2 : ix.toInt + 4 ≤ 1000) (hx3 : (vs.length : Int) ≤ ix.toInt + 4 + n) (x0 : inB ix vs) (x1 : inB (ix + 1) vs) (x2 : inB (ix + 2) vs) (x3 : inB (ix + 3) vs) (ha : getA vs ix &&& 3 = 1) : M25 30 [.val (.ref 0), .val (.ref 1), .val (.ref 14), .val (.int ix), k4, k5, k6, k7, k8, k9, k10, k11, k12, k13, k14, k15, k16, k17] [] (put 1 [(.array .int, vs.map Value.int)] s A (tl s B)) Q := by
  have r' := r
  obtain ⟨hA, hB, fr, e0, e13, e14, e15, p7, q7, h1⟩ := r
  by_cases c1 : s 1 = 0
  · have eb := h1 c1
    rw [eb]
    simp [x0, x1, x2, x3, ha, okS_i, o4, o5, o6, o7, o8, o9, o10, o11, o12, o13, o14, o15, o16, o17, -Int64.toInt32_and, -Int64.toInt32_or, -Int64.toInt32_xor, -Int32.toInt64_and, -Int32.toInt64_or, -Int32.toInt64_xor, -Int32.toInt8_and, -Int32.toUInt32_and, -Int32.toUInt32_or, -Int32.toUInt32_xor, m25_30, m25_31, m25_32, m25_32p, m25_33, m25_34, m25_35u, m25_35i, m25_35r, m25_35g, m25_37, m25_38, m25_39, m25_40, m25_41, m25_41p, m25_42u, m25_42i, m25_42r, m25_42g, m25_44, m25_45, m25_46, m25_47, m25_48, m25_48p, m25_49u, m25_49i, m25_49r, m25_49g, m25_51, m25_52, m25_53, m25_54, m25_55, m25_55p, m25_56u, m25_56i, m25_56r, m25_56g, m25_58, m25_60, m25_102, m25_104, m25_105, m25_108, m25_109, m25_112u, m25_112i, m25_112r, m25_112g, m25_114, m25_115, m25_118u, m25_118i, m25_118r, m25_118g, m25_120, m25_122, m25_124, m25_127, m25_128, m25_129, nb0, nb1, ou_a, Option.toList_some, Option.toList_none, List.nil_append, List.cons_append]
    obtain ⟨v, s', A', ⟨g1, g2⟩, hv⟩ := d9 (s := s) hA
    refine hv 0 _ _ _ ?_
    simp [okS_i, o4, o5, o6, o7, o8, o9, o10, o11, o12, o13, o14, o15, o16, o17, m25_30, m25_31, m25_32, m25_32p, m25_33, m25_34, m25_35u, m25_35i, m25_35r, m25_35g, m25_37, m25_38, m25_39, m25_40, m25_41, m25_41p, m25_42u, m25_42i, m25_42r, m25_42g, m25_44, m25_45, m25_46, m25_47, m25_48, m25_48p, m25_49u, m25_49i, m25_49r, m25_49g, m25_51, m25_52, m25_53, m25_54, m25_55, m25_55p, m25_56u, m25_56i, m25_56r, m25_56g, m25_58, m25_60, m25_102, m25_104, m25_105, m25_108, m25_109, m25_112u, m25_112i, m25_112r, m25_112g, m25_114, m25_115, m25_118u, m25_118i, m25_118r, m25_118g, m25_120, m25_122, m25_124, m25_127, m25_128, m25_129, nb0, nb1, ou_a, Option.toList_some, Option.toList_none, List.nil_append, List.cons_append]
    rw [vw]
    simp [okS_i, o4, o5, o6, o7, o8, o9, o10, o11, o12, o13, o14, o15, o16, o17, m25_30, m25_31, m25_32, m25_32p, m25_33, m25_34, m25_35u, m25_35i, m25_35r, m25_35g, m25_37, m25_38, m25_39, m25_40, m25_41, m25_41p, m25_42u, m25_42i, m25_42r, m25_42g, m25_44, m25_45, m25_46, m25_47, m25_48, m25_48p, m25_49u, m25_49i, m25_49r, m25_49g, m25_51, m25_52, m25_53, m25_54, m25_55, m25_55p, m25_56u, m25_56i, m25_56r, m25_56g, m25_58, m25_60, m25_102, m25_104, m25_105, m25_108, m25_109, m25_112u, m25_112i, m25_112r, m25_112g, m25_114, m25_115, m25_118u, m25_118i, m25_118r, m25_118g, m25_120, m25_122, m25_124, m25_127, m25_128, m25_129, nb0, nb1, ou_a, Option.toList_some, Option.toList_none, List.nil_append, List.cons_append]
    refine hv 13 _ _ _ ?_
    simp [okS_i, o4, o5, o6, o7, o8, o9, o10, o11, o12, o13, o14, o15, o16, o17, m25_30, m25_31, m25_32, m25_32p, m25_33, m25_34, m25_35u, m25_35i, m25_35r, m25_35g, m25_37, m25_38, m25_39, m25_40, m25_41, m25_41p, m25_42u, m25_42i, m25_42r, m25_42g, m25_44, m25_45, m25_46, m25_47, m25_48, m25_48p, m25_49u, m25_49i, m25_49r, m25_49g, m25_51, m25_52, m25_53, m25_54, m25_55, m25_55p, m25_56u, m25_56i, m25_56r, m25_56g, m25_58, m25_60, m25_102, m25_104, m25_105, m25_108, m25_109, m25_112u, m25_112i, m25_112r, m25_112g, m25_114, m25_115, m25_118u, m25_118i, m25_118r, m25_118g, m25_120, m25_122, m25_124, m25_127, m25_128, m25_129, nb0, nb1, ou_a, Option.toList_some, Option.toList_none, List.nil_append, List.cons_append]
    rw [← vw]
    exact tail lp (okS_i _) (okS_i _) (okS_i _) (okS_i _) (okS_i _) (okS_i _) o10 o11 o12 o13 o14 o15 o16 o17 ⟨g1, g1, fun _ _ => rfl, (g2 0 (by decide) (by decide) (by decide) (by decide) (by decide) (by decide)).trans e0, (g2 13 (by decide) (by decide) (by decide) (by decide) (by decide) (by decide)).trans e13, (g2 14 (by decide) (by decide) (by decide) (by decide) (by decide) (by decide)).trans e14, (g2 15 (by decide) (by decide) (by decide) (by decide) (by decide) (by decide)).trans e15, by rw [g2 7 (by decide) (by decide) (by decide) (by decide) (by decide) (by decide)]; exact p7, by rw [g2 7 (by decide) (by decide) (by decide) (by decide) (by decide) (by decide)]; exact q7, fun _ => rfl⟩ hx1 hx2 hx3
  · simp [x0, x1, x2, x3, ha, okS_i, o4, o5, o6, o7, o8, o9, o10, o11, o12, o13, o14, o15, o16, o17, -Int64.toInt32_and, -Int64.toInt32_or, -Int64.toInt32_xor, -Int32.toInt64_and, -Int32.toInt64_or, -Int32.toInt64_xor, -Int32.toInt8_and, -Int32.toUInt32_and, -Int32.toUInt32_or, -Int32.toUInt32_xor, m25_30, m25_31, m25_32, m25_32p, m25_33, m25_34, m25_35u, m25_35i, m25_35r, m25_35g, m25_37, m25_38, m25_39, m25_40, m25_41, m25_41p, m25_42u, m25_42i, m25_42r, m25_42g, m25_44, m25_45, m25_46, m25_47, m25_48, m25_48p, m25_49u, m25_49i, m25_49r, m25_49g, m25_51, m25_52, m25_53, m25_54, m25_55, m25_55p, m25_56u, m25_56i, m25_56r, m25_56g, m25_58, m25_60, m25_102, m25_104, m25_105, m25_108, m25_109, m25_112u, m25_112i, m25_112r, m25_112g, m25_114, m25_115, m25_118u, m25_118i, m25_118r, m25_118g, m25_120, m25_122, m25_124, m25_127, m25_128, m25_129, nb0, nb1, ou_a, Option.toList_some, Option.toList_none, List.nil_append, List.cons_append]
    refine c9n c1 0 _ _ _ ?_
    simp [okS_i, o4, o5, o6, o7, o8, o9, o10, o11, o12, o13, o14, o15, o16, o17, m25_30, m25_31, m25_32, m25_32p, m25_33, m25_34, m25_35u, m25_35i, m25_35r, m25_35g, m25_37, m25_38, m25_39, m25_40, m25_41, m25_41p, m25_42u, m25_42i, m25_42r, m25_42g, m25_44, m25_45, m25_46, m25_47, m25_48, m25_48p, m25_49u, m25_49i, m25_49r, m25_49g, m25_51, m25_52, m25_53, m25_54, m25_55, m25_55p, m25_56u, m25_56i, m25_56r, m25_56g, m25_58, m25_60, m25_102, m25_104, m25_105, m25_108, m25_109, m25_112u, m25_112i, m25_112r, m25_112g, m25_114, m25_115, m25_118u, m25_118i, m25_118r, m25_118g, m25_120, m25_122, m25_124, m25_127, m25_128, m25_129, nb0, nb1, ou_a, Option.toList_some, Option.toList_none, List.nil_append, List.cons_append]
    rw [vw]
    simp [okS_i, o4, o5, o6, o7, o8, o9, o10, o11, o12, o13, o14, o15, o16, o17, m25_30, m25_31, m25_32, m25_32p, m25_33, m25_34, m25_35u, m25_35i, m25_35r, m25_35g, m25_37, m25_38, m25_39, m25_40, m25_41, m25_41p, m25_42u, m25_42i, m25_42r, m25_42g, m25_44, m25_45, m25_46, m25_47, m25_48, m25_48p, m25_49u, m25_49i, m25_49r, m25_49g, m25_51, m25_52, m25_53, m25_54, m25_55, m25_55p, m25_56u, m25_56i, m25_56r, m25_56g, m25_58, m25_60, m25_102, m25_104, m25_105, m25_108, m25_109, m25_112u, m25_112i, m25_112r, m25_112g, m25_114, m25_115, m25_118u, m25_118i, m25_118r, m25_118g, m25_120, m25_122, m25_124, m25_127, m25_128, m25_129, nb0, nb1, ou_a, Option.toList_some, Option.toList_none, List.nil_append, List.cons_append]
    refine c9n c1 13 _ _ _ ?_
    simp [okS_i, o4, o5, o6, o7, o8, o9, o10, o11, o12, o13, o14, o15, o16, o17, m25_30, m25_31, m25_32, m25_32p, m25_33, m25_34, m25_35u, m25_35i, m25_35r, m25_35g, m25_37, m25_38, m25_39, m25_40, m25_41, m25_41p, m25_42u, m25_42i, m25_42r, m25_42g, m25_44, m25_45, m25_46, m25_47, m25_48, m25_48p, m25_49u, m25_49i, m25_49r, m25_49g, m25_51, m25_52, m25_53, m25_54, m25_55, m25_55p, m25_56u, m25_56i, m25_56r, m25_56g, m25_58, m25_60, m25_102, m25_104, m25_105, m25_108, m25_109, m25_112u, m25_112i, m25_112r, m25_112g, m25_114, m25_115, m25_118u, m25_118i, m25_118r, m25_118g, m25_120, m25_122, m25_124, m25_127, m25_128, m25_129, nb0, nb1, ou_a, Option.toList_some, Option.toList_none, List.nil_append, List.cons_append]
    rw [← vw]
    exact tail lp (okS_i _) (okS_i _) (okS_i _) (okS_i _) (okS_i _) (okS_i _) o10 o11 o12 o13 o14 o15 o16 o17 r' hx1 hx2 hx3
set_option maxRecDepth 1000000 in
set_option maxHeartbeats 20000000 in
theorem op2 {n : Nat} (lp : LP vs Q n) {ix : Int32} {k4 k5 k6 k7 k8 k9 k10 k11 k12 k13 k14 k15 k16 k17 : Slot} {s : Nat → Int32} {A B : Nat → List Int32} (o4 : okS k4) (o5 : okS k5) (o6 : okS k6) (o7 : okS k7) (o8 : okS k8) (o9 : okS k9) (o10 : okS k10) (o11 : okS k11) (o12 : okS k12) (o13 : okS k13) (o14 : okS k14) (o15 : okS k15) (o16 : okS k16) (o17 : okS k17) (r : RL s A B) (hx1 : 0 ≤ ix.toInt) (hx2 : ix.toInt + 4 ≤ 1000) (hx3 : (vs.length : Int) ≤ ix.toInt + 4 + n) (x0 : inB ix vs) (x1 : inB (ix + 1) vs) (x2 : inB (ix + 2) vs) (x3 : inB (ix + 3) vs) (ha : getA vs ix &&& 3 = 2) : M25 30 [.val (.ref 0), .val (.ref 1), .val (.ref 14), .val (.int ix), k4, k5, k6, k7, k8, k9, k10, k11, k12, k13, k14, k15, k16, k17] [] (put 1 [(.array .int, vs.map Value.int)] s A (tl s B)) Q := by
  have r' := r
  obtain ⟨hA, hB, fr, e0, e13, e14, e15, p7, q7, h1⟩ := r
  by_cases c1 : s 1 = 0
  · have eb := h1 c1
    rw [eb]
    simp [x0, x1, x2, x3, ha, okS_i, o4, o5, o6, o7, o8, o9, o10, o11, o12, o13, o14, o15, o16, o17, -Int64.toInt32_and, -Int64.toInt32_or, -Int64.toInt32_xor, -Int32.toInt64_and, -Int32.toInt64_or, -Int32.toInt64_xor, -Int32.toInt8_and, -Int32.toUInt32_and, -Int32.toUInt32_or, -Int32.toUInt32_xor, m25_30, m25_31, m25_32, m25_32p, m25_33, m25_34, m25_35u, m25_35i, m25_35r, m25_35g, m25_37, m25_38, m25_39, m25_40, m25_41, m25_41p, m25_42u, m25_42i, m25_42r, m25_42g, m25_44, m25_45, m25_46, m25_47, m25_48, m25_48p, m25_49u, m25_49i, m25_49r, m25_49g, m25_51, m25_52, m25_53, m25_54, m25_55, m25_55p, m25_56u, m25_56i, m25_56r, m25_56g, m25_58, m25_60, m25_102, m25_104, m25_105, m25_132, m25_134, m25_135, m25_138, m25_139, m25_142u, m25_142i, m25_142r, m25_142g, m25_144, m25_145, m25_148u, m25_148i, m25_148r, m25_148g, m25_150, m25_152, m25_154, m25_157, m25_158, m25_159, nb0, nb1, ou_a, Option.toList_some, Option.toList_none, List.nil_append, List.cons_append]
    obtain ⟨v, s', A', ⟨g1, g2⟩, hv⟩ := d12x (s := s) hA
    refine hv 0 _ _ _ ?_
    simp [okS_i, o4, o5, o6, o7, o8, o9, o10, o11, o12, o13, o14, o15, o16, o17, m25_30, m25_31, m25_32, m25_32p, m25_33, m25_34, m25_35u, m25_35i, m25_35r, m25_35g, m25_37, m25_38, m25_39, m25_40, m25_41, m25_41p, m25_42u, m25_42i, m25_42r, m25_42g, m25_44, m25_45, m25_46, m25_47, m25_48, m25_48p, m25_49u, m25_49i, m25_49r, m25_49g, m25_51, m25_52, m25_53, m25_54, m25_55, m25_55p, m25_56u, m25_56i, m25_56r, m25_56g, m25_58, m25_60, m25_102, m25_104, m25_105, m25_132, m25_134, m25_135, m25_138, m25_139, m25_142u, m25_142i, m25_142r, m25_142g, m25_144, m25_145, m25_148u, m25_148i, m25_148r, m25_148g, m25_150, m25_152, m25_154, m25_157, m25_158, m25_159, nb0, nb1, ou_a, Option.toList_some, Option.toList_none, List.nil_append, List.cons_append]
    rw [vw]
    simp [okS_i, o4, o5, o6, o7, o8, o9, o10, o11, o12, o13, o14, o15, o16, o17, m25_30, m25_31, m25_32, m25_32p, m25_33, m25_34, m25_35u, m25_35i, m25_35r, m25_35g, m25_37, m25_38, m25_39, m25_40, m25_41, m25_41p, m25_42u, m25_42i, m25_42r, m25_42g, m25_44, m25_45, m25_46, m25_47, m25_48, m25_48p, m25_49u, m25_49i, m25_49r, m25_49g, m25_51, m25_52, m25_53, m25_54, m25_55, m25_55p, m25_56u, m25_56i, m25_56r, m25_56g, m25_58, m25_60, m25_102, m25_104, m25_105, m25_132, m25_134, m25_135, m25_138, m25_139, m25_142u, m25_142i, m25_142r, m25_142g, m25_144, m25_145, m25_148u, m25_148i, m25_148r, m25_148g, m25_150, m25_152, m25_154, m25_157, m25_158, m25_159, nb0, nb1, ou_a, Option.toList_some, Option.toList_none, List.nil_append, List.cons_append]
    refine hv 13 _ _ _ ?_
    simp [okS_i, o4, o5, o6, o7, o8, o9, o10, o11, o12, o13, o14, o15, o16, o17, m25_30, m25_31, m25_32, m25_32p, m25_33, m25_34, m25_35u, m25_35i, m25_35r, m25_35g, m25_37, m25_38, m25_39, m25_40, m25_41, m25_41p, m25_42u, m25_42i, m25_42r, m25_42g, m25_44, m25_45, m25_46, m25_47, m25_48, m25_48p, m25_49u, m25_49i, m25_49r, m25_49g, m25_51, m25_52, m25_53, m25_54, m25_55, m25_55p, m25_56u, m25_56i, m25_56r, m25_56g, m25_58, m25_60, m25_102, m25_104, m25_105, m25_132, m25_134, m25_135, m25_138, m25_139, m25_142u, m25_142i, m25_142r, m25_142g, m25_144, m25_145, m25_148u, m25_148i, m25_148r, m25_148g, m25_150, m25_152, m25_154, m25_157, m25_158, m25_159, nb0, nb1, ou_a, Option.toList_some, Option.toList_none, List.nil_append, List.cons_append]
    rw [← vw]
    exact tail lp (okS_i _) (okS_i _) (okS_i _) (okS_i _) (okS_i _) (okS_i _) o10 o11 o12 o13 o14 o15 o16 o17 ⟨g1, g1, fun _ _ => rfl, (g2 0 (by decide) (by decide) (by decide) (by decide) (by decide) (by decide)).trans e0, (g2 13 (by decide) (by decide) (by decide) (by decide) (by decide) (by decide)).trans e13, (g2 14 (by decide) (by decide) (by decide) (by decide) (by decide) (by decide)).trans e14, (g2 15 (by decide) (by decide) (by decide) (by decide) (by decide) (by decide)).trans e15, by rw [g2 7 (by decide) (by decide) (by decide) (by decide) (by decide) (by decide)]; exact p7, by rw [g2 7 (by decide) (by decide) (by decide) (by decide) (by decide) (by decide)]; exact q7, fun _ => rfl⟩ hx1 hx2 hx3
  · simp [x0, x1, x2, x3, ha, okS_i, o4, o5, o6, o7, o8, o9, o10, o11, o12, o13, o14, o15, o16, o17, -Int64.toInt32_and, -Int64.toInt32_or, -Int64.toInt32_xor, -Int32.toInt64_and, -Int32.toInt64_or, -Int32.toInt64_xor, -Int32.toInt8_and, -Int32.toUInt32_and, -Int32.toUInt32_or, -Int32.toUInt32_xor, m25_30, m25_31, m25_32, m25_32p, m25_33, m25_34, m25_35u, m25_35i, m25_35r, m25_35g, m25_37, m25_38, m25_39, m25_40, m25_41, m25_41p, m25_42u, m25_42i, m25_42r, m25_42g, m25_44, m25_45, m25_46, m25_47, m25_48, m25_48p, m25_49u, m25_49i, m25_49r, m25_49g, m25_51, m25_52, m25_53, m25_54, m25_55, m25_55p, m25_56u, m25_56i, m25_56r, m25_56g, m25_58, m25_60, m25_102, m25_104, m25_105, m25_132, m25_134, m25_135, m25_138, m25_139, m25_142u, m25_142i, m25_142r, m25_142g, m25_144, m25_145, m25_148u, m25_148i, m25_148r, m25_148g, m25_150, m25_152, m25_154, m25_157, m25_158, m25_159, nb0, nb1, ou_a, Option.toList_some, Option.toList_none, List.nil_append, List.cons_append]
    refine c12n c1 0 _ _ _ ?_
    simp [okS_i, o4, o5, o6, o7, o8, o9, o10, o11, o12, o13, o14, o15, o16, o17, m25_30, m25_31, m25_32, m25_32p, m25_33, m25_34, m25_35u, m25_35i, m25_35r, m25_35g, m25_37, m25_38, m25_39, m25_40, m25_41, m25_41p, m25_42u, m25_42i, m25_42r, m25_42g, m25_44, m25_45, m25_46, m25_47, m25_48, m25_48p, m25_49u, m25_49i, m25_49r, m25_49g, m25_51, m25_52, m25_53, m25_54, m25_55, m25_55p, m25_56u, m25_56i, m25_56r, m25_56g, m25_58, m25_60, m25_102, m25_104, m25_105, m25_132, m25_134, m25_135, m25_138, m25_139, m25_142u, m25_142i, m25_142r, m25_142g, m25_144, m25_145, m25_148u, m25_148i, m25_148r, m25_148g, m25_150, m25_152, m25_154, m25_157, m25_158, m25_159, nb0, nb1, ou_a, Option.toList_some, Option.toList_none, List.nil_append, List.cons_append]
    rw [vw]
    simp [okS_i, o4, o5, o6, o7, o8, o9, o10, o11, o12, o13, o14, o15, o16, o17, m25_30, m25_31, m25_32, m25_32p, m25_33, m25_34, m25_35u, m25_35i, m25_35r, m25_35g, m25_37, m25_38, m25_39, m25_40, m25_41, m25_41p, m25_42u, m25_42i, m25_42r, m25_42g, m25_44, m25_45, m25_46, m25_47, m25_48, m25_48p, m25_49u, m25_49i, m25_49r, m25_49g, m25_51, m25_52, m25_53, m25_54, m25_55, m25_55p, m25_56u, m25_56i, m25_56r, m25_56g, m25_58, m25_60, m25_102, m25_104, m25_105, m25_132, m25_134, m25_135, m25_138, m25_139, m25_142u, m25_142i, m25_142r, m25_142g, m25_144, m25_145, m25_148u, m25_148i, m25_148r, m25_148g, m25_150, m25_152, m25_154, m25_157, m25_158, m25_159, nb0, nb1, ou_a, Option.toList_some, Option.toList_none, List.nil_append, List.cons_append]
    refine c12n c1 13 _ _ _ ?_
    simp [okS_i, o4, o5, o6, o7, o8, o9, o10, o11, o12, o13, o14, o15, o16, o17, m25_30, m25_31, m25_32, m25_32p, m25_33, m25_34, m25_35u, m25_35i, m25_35r, m25_35g, m25_37, m25_38, m25_39, m25_40, m25_41, m25_41p, m25_42u, m25_42i, m25_42r, m25_42g, m25_44, m25_45, m25_46, m25_47, m25_48, m25_48p, m25_49u, m25_49i, m25_49r, m25_49g, m25_51, m25_52, m25_53, m25_54, m25_55, m25_55p, m25_56u, m25_56i, m25_56r, m25_56g, m25_58, m25_60, m25_102, m25_104, m25_105, m25_132, m25_134, m25_135, m25_138, m25_139, m25_142u, m25_142i, m25_142r, m25_142g, m25_144, m25_145, m25_148u, m25_148i, m25_148r, m25_148g, m25_150, m25_152, m25_154, m25_157, m25_158, m25_159, nb0, nb1, ou_a, Option.toList_some, Option.toList_none, List.nil_append, List.cons_append]
    rw [← vw]
    exact tail lp (okS_i _) (okS_i _) (okS_i _) (okS_i _) (okS_i _) (okS_i _) o10 o11 o12 o13 o14 o15 o16 o17 r' hx1 hx2 hx3
end Law
section Seg
variable {x : S2}
theorem op2c {st : Int32} (h1 : ¬ x.1 1 = 0) (h13 : x.1 13 = 0) (c : ¬ st < 0) (d : st < 256) : ∀ (b : Nat) (pre post : AHeap) (Q : Option Value → AHeap → Prop), Q (some (.int 0)) (put (b + 1) pre (wr 1 st 0 (x.2 9) x).1 (wr 1 st 0 (x.2 9) x).2 post) → M2 0 [.val (.ref (b + 1)), .val (.int st)] [] (put (b + 1) pre (x).1 (x).2 post) Q := by
  intro b pre post Q hq
  refine o2c h1 h13 c d b pre post Q ?_
  have e : wr 1 st 0 (x.2 9) x = (ou (ou (ou x.1 13 1) 14 st) 15 0, x.2) := by
    unfold wr
    rw [ou_self]
  rw [e] at hq
  exact hq
theorem fl24 {sd fm to st : Int32} {l0 : List Int32} (h : LN x.2) (hl0 : l0.length = 16) (f0 : 0 ≤ fm.toInt) (ft : fm.toInt ≤ to.toInt) (t16 : to.toInt - fm.toInt ≤ 16) (to1 : to.toInt ≤ 100) (p14 : 0 ≤ st.toInt) (q14 : st.toInt + (to.toInt - fm.toInt) ≤ 256) : ∃ l' : List Int32, (l'.length = 16 ∧ ∀ t : Int32, 0 ≤ t.toInt → t.toInt < to.toInt - fm.toInt → getA l' t = bt sd (fm + t)) ∧ ∀ (b : Nat) (pre post : AHeap) (Q : Option Value → AHeap → Prop), Q (some (.int 1)) (put (b + 1) pre (wr 1 st (to - fm) l' x).1 (wr 1 st (to - fm) l' x).2 post) → M24 0 [.val (.ref (b + 1)), .val (.int sd), .val (.int fm), .val (.int to), .unset, .unset] [] (put (b + 1) pre (wr 1 st 0 l0 x).1 (wr 1 st 0 l0 x).2 post) Q := by
  obtain ⟨l', g, hv⟩ := o24 (s := (wr 1 st 0 l0 x).1) (A := (wr 1 st 0 l0 x).2) (sd := sd) (LN_ou h (hl0.trans A0l_9.symm)) f0 ft t16 to1 (by show ¬ (1 : Int32) = 0; decide) rfl p14 q14
  refine ⟨l', g, fun b pre post Q hq => hv b pre post Q ?_⟩
  have e1 : ou (wr 1 st 0 l0 x).1 15 (to - fm) = (wr 1 st (to - fm) l' x).1 := ou_same _ _ _ _
  have e2 : ou (wr 1 st 0 l0 x).2 9 l' = (wr 1 st (to - fm) l' x).2 := ou_same _ _ _ _
  rw [e1, e2]
  exact hq
set_option maxRecDepth 1000000 in
set_option maxHeartbeats 20000000 in
theorem cl18 {st ln : Int32} {l : List Int32} {g : Int32 → Int32} {n : Nat} (hn : ln.toInt = n) (h : LN x.2) (hl : l.length = 16) (x0 : x.1 0 = 16) (p7 : 0 ≤ (x.1 7).toInt) (q7 : (x.1 7).toInt ≤ 256) (l0 : 0 ≤ ln.toInt) (l1 : ln.toInt ≤ 16) (s0 : 0 ≤ st.toInt) (s1 : st.toInt + ln.toInt ≤ 256) (w : st.toInt + ln.toInt ≤ (x.1 7).toInt + 16) (hg : ∀ t : Int32, 0 ≤ t.toInt → t.toInt < ln.toInt → getA l t = g t) :
    ∀ (b : Nat) (pre post : AHeap) (Q : Option Value → AHeap → Prop), Q (some (.int ((adv 256 (abN st g n 0 x)).1 7 - x.1 7))) (put (b + 1) pre (wr 0 (-1) 0 l (adv 256 (abN st g n 0 x))).1 (wr 0 (-1) 0 l (adv 256 (abN st g n 0 x))).2 post) → M18 0 [.val (.ref (b + 1)), .unset, .unset] [] (put (b + 1) pre (wr 1 st ln l x).1 (wr 1 st ln l x).2 post) Q := by
  intro b pre post Q hq
  have e16 : (x.1 7 + (16 : Int32)).toInt = (x.1 7).toInt + 16 := add_i (by rw [i_16]; omega) (by rw [i_16]; omega)
  refine e18 (s := (wr 1 st ln l x).1) (A := (wr 1 st ln l x).2) (st := st) (d := x.1 7) (l9 := l) (n := n) (LN_ou h (hl.trans A0l_9.symm)) (by show ¬ (1 : Int32) = 0; decide) rfl rfl rfl (by show ln.toInt = _; omega) l1 p7 (fun t t0 t1 => ?_) b pre post Q ?_
  · have t1' : t.toInt < ln.toInt := t1
    have et : (st + t).toInt = st.toInt + t.toInt := add_i (by omega) (by omega)
    refine ⟨by rw [nn_i]; omega, by rw [lt_i, i_256]; omega, ?_⟩
    show st + t < x.1 7 + x.1 0
    rw [x0, lt_i, e16]
    omega
  · have e : adv 256 (cl (abN st (getA l) n 0 ((wr 1 st ln l x).1, (wr 1 st ln l x).2))) = wr 0 (-1) 0 l (adv 256 (abN st g n 0 x)) := by
      show adv 256 (cl (abN st (getA l) n 0 (wr 1 st ln l x))) = _
      rw [abN_wr, cl_wr, adv_wr, abN_cong (g := g) _ _ _ (by decide) (by rw [i_0]; omega) (fun t t0 t1 => hg t (by rw [i_0] at t0; exact t0) (by rw [i_0] at t1; omega))]
    rw [e]
    exact hq
end Seg
section Law
variable {Q : Option Value → AHeap → Prop} {vs : List Int32}
set_option maxRecDepth 1000000 in
set_option maxHeartbeats 20000000 in
theorem op3a {n : Nat} (lp : LP vs Q n) {ix sd d st ln kk : Int32} {k4 k5 k6 k12 k13 k14 k15 k16 k17 : Slot} {s : Nat → Int32} {A B : Nat → List Int32} (o4 : okS k4) (o5 : okS k5) (o6 : okS k6) (o12 : okS k12) (o13 : okS k13) (o14 : okS k14) (o15 : okS k15) (o16 : okS k16) (o17 : okS k17) (r : RL s A B) (hx1 : 0 ≤ ix.toInt) (hx2 : ix.toInt + 4 ≤ 1000) (hx3 : (vs.length : Int) ≤ ix.toInt + 4 + n) (c1 : s 1 = 0 ∨ (¬ s 1 = 0 ∧ (st < 0 ∨ ¬ st < 256))) : M25 237 [.val (.ref 0), .val (.ref 1), .val (.ref 14), .val (.int ix), k4, k5, k6, .val (.int sd), .val (.int d), .val (.int st), .val (.int ln), .val (.int kk), k12, k13, k14, k15, k16, k17] [] (put 1 [(.array .int, vs.map Value.int)] s A (tl s B)) Q := by
  have e13 := r.2.2.2.2.1
  rcases c1 with c1 | ⟨c1, c2⟩
  · simp [okS_i, o4, o5, o6, o12, o13, o14, o15, o16, o17, m25_237, m25_238, m25_240, m25_243u, m25_243i, m25_243r, m25_243g, m25_245, m25_246, m25_248, m25_251u, m25_251i, m25_251r, m25_251g, m25_253, m25_255, m25_257, m25_260, m25_261, m25_262, m25_264, m25_267, m25_268, m25_270, m25_271, m25_273, m25_276, m25_279, m25_280, m25_281, m25_282, m25_285u, m25_285i, m25_285r, m25_285g, m25_287, m25_288, m25_290, m25_291, m25_293, m25_296, m25_299, m25_300, m25_301, m25_302, m25_305u, m25_305i, m25_305r, m25_305g, m25_307, m25_308u, m25_308i, m25_308r, m25_308g, m25_310, m25_312, m25_314, m25_317, m25_318, m25_320, m25_322, m25_323, m25_326u, m25_326i, m25_326r, m25_326g, m25_328, m25_330, m25_333, m25_334, m25_335, m25_336, m25_338, m25_340, m25_342, m25_345, m25_348, m25_349, m25_350, m25_351, m25_354i, m25_356, m25_358, m25_361, m25_363, m25_366, m25_368, m25_371, m25_373, m25_375, m25_377, m25_378, m25_381, m25_382, nb0, nb1, ou_a, Option.toList_some, Option.toList_none, List.nil_append, List.cons_append]
    refine o2a c1 0 _ _ _ ?_
    simp [okS_i, o4, o5, o6, o12, o13, o14, o15, o16, o17, m25_237, m25_238, m25_240, m25_243u, m25_243i, m25_243r, m25_243g, m25_245, m25_246, m25_248, m25_251u, m25_251i, m25_251r, m25_251g, m25_253, m25_255, m25_257, m25_260, m25_261, m25_262, m25_264, m25_267, m25_268, m25_270, m25_271, m25_273, m25_276, m25_279, m25_280, m25_281, m25_282, m25_285u, m25_285i, m25_285r, m25_285g, m25_287, m25_288, m25_290, m25_291, m25_293, m25_296, m25_299, m25_300, m25_301, m25_302, m25_305u, m25_305i, m25_305r, m25_305g, m25_307, m25_308u, m25_308i, m25_308r, m25_308g, m25_310, m25_312, m25_314, m25_317, m25_318, m25_320, m25_322, m25_323, m25_326u, m25_326i, m25_326r, m25_326g, m25_328, m25_330, m25_333, m25_334, m25_335, m25_336, m25_338, m25_340, m25_342, m25_345, m25_348, m25_349, m25_350, m25_351, m25_354i, m25_356, m25_358, m25_361, m25_363, m25_366, m25_368, m25_371, m25_373, m25_375, m25_377, m25_378, m25_381, m25_382, nb0, nb1, ou_a, Option.toList_some, Option.toList_none, List.nil_append, List.cons_append]
    rw [vw]
    simp [okS_i, o4, o5, o6, o12, o13, o14, o15, o16, o17, m25_237, m25_238, m25_240, m25_243u, m25_243i, m25_243r, m25_243g, m25_245, m25_246, m25_248, m25_251u, m25_251i, m25_251r, m25_251g, m25_253, m25_255, m25_257, m25_260, m25_261, m25_262, m25_264, m25_267, m25_268, m25_270, m25_271, m25_273, m25_276, m25_279, m25_280, m25_281, m25_282, m25_285u, m25_285i, m25_285r, m25_285g, m25_287, m25_288, m25_290, m25_291, m25_293, m25_296, m25_299, m25_300, m25_301, m25_302, m25_305u, m25_305i, m25_305r, m25_305g, m25_307, m25_308u, m25_308i, m25_308r, m25_308g, m25_310, m25_312, m25_314, m25_317, m25_318, m25_320, m25_322, m25_323, m25_326u, m25_326i, m25_326r, m25_326g, m25_328, m25_330, m25_333, m25_334, m25_335, m25_336, m25_338, m25_340, m25_342, m25_345, m25_348, m25_349, m25_350, m25_351, m25_354i, m25_356, m25_358, m25_361, m25_363, m25_366, m25_368, m25_371, m25_373, m25_375, m25_377, m25_378, m25_381, m25_382, nb0, nb1, ou_a, Option.toList_some, Option.toList_none, List.nil_append, List.cons_append]
    refine o2a c1 13 _ _ _ ?_
    simp [okS_i, o4, o5, o6, o12, o13, o14, o15, o16, o17, m25_237, m25_238, m25_240, m25_243u, m25_243i, m25_243r, m25_243g, m25_245, m25_246, m25_248, m25_251u, m25_251i, m25_251r, m25_251g, m25_253, m25_255, m25_257, m25_260, m25_261, m25_262, m25_264, m25_267, m25_268, m25_270, m25_271, m25_273, m25_276, m25_279, m25_280, m25_281, m25_282, m25_285u, m25_285i, m25_285r, m25_285g, m25_287, m25_288, m25_290, m25_291, m25_293, m25_296, m25_299, m25_300, m25_301, m25_302, m25_305u, m25_305i, m25_305r, m25_305g, m25_307, m25_308u, m25_308i, m25_308r, m25_308g, m25_310, m25_312, m25_314, m25_317, m25_318, m25_320, m25_322, m25_323, m25_326u, m25_326i, m25_326r, m25_326g, m25_328, m25_330, m25_333, m25_334, m25_335, m25_336, m25_338, m25_340, m25_342, m25_345, m25_348, m25_349, m25_350, m25_351, m25_354i, m25_356, m25_358, m25_361, m25_363, m25_366, m25_368, m25_371, m25_373, m25_375, m25_377, m25_378, m25_381, m25_382, nb0, nb1, ou_a, Option.toList_some, Option.toList_none, List.nil_append, List.cons_append]
    rw [← vw]
    exact tail lp o4 o5 o6 (okS_i _) (okS_i _) (okS_i _) (okS_i _) (okS_i _) (okS_i _) (okS_i _) o14 o15 o16 o17 r hx1 hx2 hx3
  · simp [okS_i, o4, o5, o6, o12, o13, o14, o15, o16, o17, m25_237, m25_238, m25_240, m25_243u, m25_243i, m25_243r, m25_243g, m25_245, m25_246, m25_248, m25_251u, m25_251i, m25_251r, m25_251g, m25_253, m25_255, m25_257, m25_260, m25_261, m25_262, m25_264, m25_267, m25_268, m25_270, m25_271, m25_273, m25_276, m25_279, m25_280, m25_281, m25_282, m25_285u, m25_285i, m25_285r, m25_285g, m25_287, m25_288, m25_290, m25_291, m25_293, m25_296, m25_299, m25_300, m25_301, m25_302, m25_305u, m25_305i, m25_305r, m25_305g, m25_307, m25_308u, m25_308i, m25_308r, m25_308g, m25_310, m25_312, m25_314, m25_317, m25_318, m25_320, m25_322, m25_323, m25_326u, m25_326i, m25_326r, m25_326g, m25_328, m25_330, m25_333, m25_334, m25_335, m25_336, m25_338, m25_340, m25_342, m25_345, m25_348, m25_349, m25_350, m25_351, m25_354i, m25_356, m25_358, m25_361, m25_363, m25_366, m25_368, m25_371, m25_373, m25_375, m25_377, m25_378, m25_381, m25_382, nb0, nb1, ou_a, Option.toList_some, Option.toList_none, List.nil_append, List.cons_append]
    refine o2b c1 e13 c2 0 _ _ _ ?_
    simp [okS_i, o4, o5, o6, o12, o13, o14, o15, o16, o17, m25_237, m25_238, m25_240, m25_243u, m25_243i, m25_243r, m25_243g, m25_245, m25_246, m25_248, m25_251u, m25_251i, m25_251r, m25_251g, m25_253, m25_255, m25_257, m25_260, m25_261, m25_262, m25_264, m25_267, m25_268, m25_270, m25_271, m25_273, m25_276, m25_279, m25_280, m25_281, m25_282, m25_285u, m25_285i, m25_285r, m25_285g, m25_287, m25_288, m25_290, m25_291, m25_293, m25_296, m25_299, m25_300, m25_301, m25_302, m25_305u, m25_305i, m25_305r, m25_305g, m25_307, m25_308u, m25_308i, m25_308r, m25_308g, m25_310, m25_312, m25_314, m25_317, m25_318, m25_320, m25_322, m25_323, m25_326u, m25_326i, m25_326r, m25_326g, m25_328, m25_330, m25_333, m25_334, m25_335, m25_336, m25_338, m25_340, m25_342, m25_345, m25_348, m25_349, m25_350, m25_351, m25_354i, m25_356, m25_358, m25_361, m25_363, m25_366, m25_368, m25_371, m25_373, m25_375, m25_377, m25_378, m25_381, m25_382, nb0, nb1, ou_a, Option.toList_some, Option.toList_none, List.nil_append, List.cons_append]
    rw [vw]
    simp [okS_i, o4, o5, o6, o12, o13, o14, o15, o16, o17, m25_237, m25_238, m25_240, m25_243u, m25_243i, m25_243r, m25_243g, m25_245, m25_246, m25_248, m25_251u, m25_251i, m25_251r, m25_251g, m25_253, m25_255, m25_257, m25_260, m25_261, m25_262, m25_264, m25_267, m25_268, m25_270, m25_271, m25_273, m25_276, m25_279, m25_280, m25_281, m25_282, m25_285u, m25_285i, m25_285r, m25_285g, m25_287, m25_288, m25_290, m25_291, m25_293, m25_296, m25_299, m25_300, m25_301, m25_302, m25_305u, m25_305i, m25_305r, m25_305g, m25_307, m25_308u, m25_308i, m25_308r, m25_308g, m25_310, m25_312, m25_314, m25_317, m25_318, m25_320, m25_322, m25_323, m25_326u, m25_326i, m25_326r, m25_326g, m25_328, m25_330, m25_333, m25_334, m25_335, m25_336, m25_338, m25_340, m25_342, m25_345, m25_348, m25_349, m25_350, m25_351, m25_354i, m25_356, m25_358, m25_361, m25_363, m25_366, m25_368, m25_371, m25_373, m25_375, m25_377, m25_378, m25_381, m25_382, nb0, nb1, ou_a, Option.toList_some, Option.toList_none, List.nil_append, List.cons_append]
    refine o2b c1 e13 c2 13 _ _ _ ?_
    simp [okS_i, o4, o5, o6, o12, o13, o14, o15, o16, o17, m25_237, m25_238, m25_240, m25_243u, m25_243i, m25_243r, m25_243g, m25_245, m25_246, m25_248, m25_251u, m25_251i, m25_251r, m25_251g, m25_253, m25_255, m25_257, m25_260, m25_261, m25_262, m25_264, m25_267, m25_268, m25_270, m25_271, m25_273, m25_276, m25_279, m25_280, m25_281, m25_282, m25_285u, m25_285i, m25_285r, m25_285g, m25_287, m25_288, m25_290, m25_291, m25_293, m25_296, m25_299, m25_300, m25_301, m25_302, m25_305u, m25_305i, m25_305r, m25_305g, m25_307, m25_308u, m25_308i, m25_308r, m25_308g, m25_310, m25_312, m25_314, m25_317, m25_318, m25_320, m25_322, m25_323, m25_326u, m25_326i, m25_326r, m25_326g, m25_328, m25_330, m25_333, m25_334, m25_335, m25_336, m25_338, m25_340, m25_342, m25_345, m25_348, m25_349, m25_350, m25_351, m25_354i, m25_356, m25_358, m25_361, m25_363, m25_366, m25_368, m25_371, m25_373, m25_375, m25_377, m25_378, m25_381, m25_382, nb0, nb1, ou_a, Option.toList_some, Option.toList_none, List.nil_append, List.cons_append]
    rw [← vw]
    exact tail lp o4 o5 o6 (okS_i _) (okS_i _) (okS_i _) (okS_i _) (okS_i _) (okS_i _) (okS_i _) o14 o15 o16 o17 r hx1 hx2 hx3
theorem rB {s : Nat → Int32} {A B : Nat → List Int32} (fr : ∀ j, j ≠ 9 → B j = A j) (e13 : s 13 = 0) (e14 : s 14 = -1) (e15 : s 15 = 0) : ((s, B) : S2) = wr 0 (-1) 0 (B 9) (s, A) := by
  unfold wr
  refine Prod.ext (funext fun i => ?_) (funext fun j => ?_)
  · simp only [ou_a]
    by_cases i15 : i = 15
    · simp [i15, e15]
    by_cases i14 : i = 14
    · simp [i14, e14]
    by_cases i13 : i = 13
    · simp [i13, e13]
    simp [i13, i14, i15]
  · simp only [ou_a]
    by_cases j9 : j = 9
    · simp [j9]
    simp [j9, fr j j9]
theorem tri (a y f : Int32) : (y - a) + (f - y) = f - a := by
  rw [Int32.add_comm, Int32.sub_eq_add_neg f y, Int32.sub_eq_add_neg y a, ← Int32.add_assoc, Int32.add_assoc f, Int32.add_left_neg, Int32.add_zero, ← Int32.sub_eq_add_neg]
set_option maxRecDepth 1000000 in
set_option maxHeartbeats 20000000 in
theorem op3b {n : Nat} (lp : LP vs Q n) {ix sd d st ln kk : Int32} {k4 k5 k6 k12 k13 k14 k15 k16 k17 : Slot} {s : Nat → Int32} {A B : Nat → List Int32} (o4 : okS k4) (o5 : okS k5) (o6 : okS k6) (o12 : okS k12) (o13 : okS k13) (o14 : okS k14) (o15 : okS k15) (o16 : okS k16) (o17 : okS k17) (r : RL s A B) (hx1 : 0 ≤ ix.toInt) (hx2 : ix.toInt + 4 ≤ 1000) (hx3 : (vs.length : Int) ≤ ix.toInt + 4 + n) (ed : d = s 7) (c1 : ¬ s 1 = 0) (s0 : 0 ≤ st.toInt) (l1 : 1 ≤ ln.toInt) (l8 : ln.toInt ≤ 8) (sl : st.toInt + ln.toInt ≤ 256) (w : st.toInt + ln.toInt ≤ (s 7).toInt + 11) (k0 : 0 ≤ kk.toInt) (k1 : kk.toInt ≤ ln.toInt) : M25 237 [.val (.ref 0), .val (.ref 1), .val (.ref 14), .val (.int ix), k4, k5, k6, .val (.int sd), .val (.int d), .val (.int st), .val (.int ln), .val (.int kk), k12, k13, k14, k15, k16, k17] [] (put 1 [(.array .int, vs.map Value.int)] s A (tl s B)) Q := by
  have r' := r
  obtain ⟨hA, hB, fr, e0, e13, e14, e15, p7, q7, h1⟩ := r
  obtain ⟨nn, en⟩ : ∃ nn : Nat, ln.toInt = nn := ⟨ln.toInt.toNat, (Int.toNat_of_nonneg (by omega)).symm⟩
  obtain ⟨nk, ek⟩ : ∃ nk : Nat, kk.toInt = nk := ⟨kk.toInt.toNat, (Int.toNat_of_nonneg k0).symm⟩
  have c : ¬ st < 0 := nn_i.mpr s0
  have c' : st < 256 := by rw [lt_i, i_256]; omega
  have hB9 : (B 9).length = 16 := (hB 9).trans A0l_9
  have hA9 : (A 9).length = 16 := (hA 9).trans A0l_9
  have ez : ∀ t : Int32, (0 : Int32) + t = t := Int32.zero_add
  have eln : (ln - 0 : Int32) = ln := Int32.sub_zero _
  have ekk : (kk - 0 : Int32) = kk := Int32.sub_zero _
  obtain ⟨la, ⟨hla, ga⟩, va⟩ := fl24 (x := (s, A)) (sd := sd) (fm := 0) (to := ln) (st := st) (l0 := A 9) hA hA9 (by decide) (by rw [i_0]; omega) (by rw [i_0]; omega) (by omega) s0 (by rw [i_0]; omega)
  obtain ⟨lb, ⟨hlb, gb⟩, vb⟩ := fl24 (x := (s, B)) (sd := sd) (fm := 0) (to := kk) (st := st) (l0 := B 9) hB hB9 (by decide) (by rw [i_0]; omega) (by rw [i_0]; omega) (by omega) s0 (by rw [i_0]; omega)
  rw [eln] at va
  rw [ekk] at vb
  rw [i_0] at ga gb
  have ca := cl18 (x := (s, A)) (st := st) (ln := ln) (l := la) (g := bt sd) en hA hla e0 p7 q7 (by omega) (by omega) s0 sl (by show _ ≤ (s 7).toInt + 16; omega) (fun t t0 t1 => by rw [ga t t0 (by omega), ez])
  have cb := cl18 (x := (s, B)) (st := st) (ln := kk) (l := lb) (g := bt sd) ek hB hlb e0 p7 q7 k0 (by omega) s0 (by omega) (by show _ ≤ (s 7).toInt + 16; omega) (fun t t0 t1 => by rw [gb t t0 (by omega), ez])
  have eB : adv 256 (abN st (bt sd) nk 0 (s, B)) = wr 0 (-1) 0 (B 9) (adv 256 (abN st (bt sd) nk 0 (s, A))) := by rw [rB fr e13 e14 e15, abN_wr, adv_wr]
  have e7d : (wr 0 (-1) 0 (B 9) (adv 256 (abN st (bt sd) nk 0 (s, A)))).1 7 = (adv 256 (abN st (bt sd) nk 0 (s, A))).1 7 := rfl
  rw [eB, wr_wr, e7d] at cb
  have lY : LN (adv 256 (abN st (bt sd) nk 0 (s, A))).2 := LN_adv _ _ (LN_abN _ _ _ hA)
  have lF : LN (adv 256 (abN st (bt sd) nn 0 (s, A))).2 := LN_adv _ _ (LN_abN _ _ _ hA)
  have a7 : ∀ m, (abN st (bt sd) m 0 (s, A)).1 7 = s 7 := fun m => abN_s (by decide) (by decide) (by decide) (by decide) m 0 (s, A)
  have y7 := adv_bd 256 (abN st (bt sd) nk 0 (s, A)) (by rw [a7]; exact p7) (by rw [a7]; exact q7)
  have f7 := adv_bd 256 (abN st (bt sd) nn 0 (s, A)) (by rw [a7]; exact p7) (by rw [a7]; exact q7)
  rw [a7] at y7 f7
  have f0 : (adv 256 (abN st (bt sd) nn 0 (s, A))).1 0 = 16 := by rw [adv_s (by decide) (by decide) (by decide) (by decide), abN_s (by decide) (by decide) (by decide) (by decide)]; exact e0
  have f1 : (adv 256 (abN st (bt sd) nn 0 (s, A))).1 1 = s 1 := by rw [adv_s (by decide) (by decide) (by decide) (by decide), abN_s (by decide) (by decide) (by decide) (by decide)]
  have y0 : (adv 256 (abN st (bt sd) nk 0 (s, A))).1 0 = 16 := by rw [adv_s (by decide) (by decide) (by decide) (by decide), abN_s (by decide) (by decide) (by decide) (by decide)]; exact e0
  have y1 : (adv 256 (abN st (bt sd) nk 0 (s, A))).1 1 = s 1 := by rw [adv_s (by decide) (by decide) (by decide) (by decide), abN_s (by decide) (by decide) (by decide) (by decide)]
  have f7a : 0 ≤ ((adv 256 (abN st (bt sd) nn 0 (s, A))).1 7).toInt := by omega
  have f7b := f7.2
  have n1 : ¬ (adv 256 (abN st (bt sd) nn 0 (s, A))).1 7 - s 7 < 0 := by rw [nn_i, sub_i (by omega) (by omega)]; omega
  have n2 : ¬ (adv 256 (abN st (bt sd) nk 0 (s, A))).1 7 - s 7 < 0 := by rw [nn_i, sub_i (by omega) (by omega)]; omega
  subst ed
  simp [okS_i, o4, o5, o6, o12, o13, o14, o15, o16, o17, m25_237, m25_238, m25_240, m25_243u, m25_243i, m25_243r, m25_243g, m25_245, m25_246, m25_248, m25_251u, m25_251i, m25_251r, m25_251g, m25_253, m25_255, m25_257, m25_260, m25_261, m25_262, m25_264, m25_267, m25_268, m25_270, m25_271, m25_273, m25_276, m25_279, m25_280, m25_281, m25_282, m25_285u, m25_285i, m25_285r, m25_285g, m25_287, m25_288, m25_290, m25_291, m25_293, m25_296, m25_299, m25_300, m25_301, m25_302, m25_305u, m25_305i, m25_305r, m25_305g, m25_307, m25_308u, m25_308i, m25_308r, m25_308g, m25_310, m25_312, m25_314, m25_317, m25_318, m25_320, m25_322, m25_323, m25_326u, m25_326i, m25_326r, m25_326g, m25_328, m25_330, m25_333, m25_334, m25_335, m25_336, m25_338, m25_340, m25_342, m25_345, m25_348, m25_349, m25_350, m25_351, m25_354i, m25_356, m25_358, m25_361, m25_363, m25_366, m25_368, m25_371, m25_373, m25_375, m25_377, m25_378, m25_381, m25_382, nb0, nb1, ou_a, Option.toList_some, Option.toList_none, List.nil_append, List.cons_append]
  refine op2c (x := (s, A)) c1 e13 c c' 0 _ _ _ ?_
  simp [okS_i, o4, o5, o6, o12, o13, o14, o15, o16, o17, m25_237, m25_238, m25_240, m25_243u, m25_243i, m25_243r, m25_243g, m25_245, m25_246, m25_248, m25_251u, m25_251i, m25_251r, m25_251g, m25_253, m25_255, m25_257, m25_260, m25_261, m25_262, m25_264, m25_267, m25_268, m25_270, m25_271, m25_273, m25_276, m25_279, m25_280, m25_281, m25_282, m25_285u, m25_285i, m25_285r, m25_285g, m25_287, m25_288, m25_290, m25_291, m25_293, m25_296, m25_299, m25_300, m25_301, m25_302, m25_305u, m25_305i, m25_305r, m25_305g, m25_307, m25_308u, m25_308i, m25_308r, m25_308g, m25_310, m25_312, m25_314, m25_317, m25_318, m25_320, m25_322, m25_323, m25_326u, m25_326i, m25_326r, m25_326g, m25_328, m25_330, m25_333, m25_334, m25_335, m25_336, m25_338, m25_340, m25_342, m25_345, m25_348, m25_349, m25_350, m25_351, m25_354i, m25_356, m25_358, m25_361, m25_363, m25_366, m25_368, m25_371, m25_373, m25_375, m25_377, m25_378, m25_381, m25_382, nb0, nb1, ou_a, Option.toList_some, Option.toList_none, List.nil_append, List.cons_append]
  rw [vw]
  simp [okS_i, o4, o5, o6, o12, o13, o14, o15, o16, o17, m25_237, m25_238, m25_240, m25_243u, m25_243i, m25_243r, m25_243g, m25_245, m25_246, m25_248, m25_251u, m25_251i, m25_251r, m25_251g, m25_253, m25_255, m25_257, m25_260, m25_261, m25_262, m25_264, m25_267, m25_268, m25_270, m25_271, m25_273, m25_276, m25_279, m25_280, m25_281, m25_282, m25_285u, m25_285i, m25_285r, m25_285g, m25_287, m25_288, m25_290, m25_291, m25_293, m25_296, m25_299, m25_300, m25_301, m25_302, m25_305u, m25_305i, m25_305r, m25_305g, m25_307, m25_308u, m25_308i, m25_308r, m25_308g, m25_310, m25_312, m25_314, m25_317, m25_318, m25_320, m25_322, m25_323, m25_326u, m25_326i, m25_326r, m25_326g, m25_328, m25_330, m25_333, m25_334, m25_335, m25_336, m25_338, m25_340, m25_342, m25_345, m25_348, m25_349, m25_350, m25_351, m25_354i, m25_356, m25_358, m25_361, m25_363, m25_366, m25_368, m25_371, m25_373, m25_375, m25_377, m25_378, m25_381, m25_382, nb0, nb1, ou_a, Option.toList_some, Option.toList_none, List.nil_append, List.cons_append]
  refine op2c (x := (s, B)) c1 e13 c c' 13 _ _ _ ?_
  simp [okS_i, o4, o5, o6, o12, o13, o14, o15, o16, o17, m25_237, m25_238, m25_240, m25_243u, m25_243i, m25_243r, m25_243g, m25_245, m25_246, m25_248, m25_251u, m25_251i, m25_251r, m25_251g, m25_253, m25_255, m25_257, m25_260, m25_261, m25_262, m25_264, m25_267, m25_268, m25_270, m25_271, m25_273, m25_276, m25_279, m25_280, m25_281, m25_282, m25_285u, m25_285i, m25_285r, m25_285g, m25_287, m25_288, m25_290, m25_291, m25_293, m25_296, m25_299, m25_300, m25_301, m25_302, m25_305u, m25_305i, m25_305r, m25_305g, m25_307, m25_308u, m25_308i, m25_308r, m25_308g, m25_310, m25_312, m25_314, m25_317, m25_318, m25_320, m25_322, m25_323, m25_326u, m25_326i, m25_326r, m25_326g, m25_328, m25_330, m25_333, m25_334, m25_335, m25_336, m25_338, m25_340, m25_342, m25_345, m25_348, m25_349, m25_350, m25_351, m25_354i, m25_356, m25_358, m25_361, m25_363, m25_366, m25_368, m25_371, m25_373, m25_375, m25_377, m25_378, m25_381, m25_382, nb0, nb1, ou_a, Option.toList_some, Option.toList_none, List.nil_append, List.cons_append]
  rw [← vw]
  refine va 0 _ _ _ ?_
  simp [okS_i, o4, o5, o6, o12, o13, o14, o15, o16, o17, m25_237, m25_238, m25_240, m25_243u, m25_243i, m25_243r, m25_243g, m25_245, m25_246, m25_248, m25_251u, m25_251i, m25_251r, m25_251g, m25_253, m25_255, m25_257, m25_260, m25_261, m25_262, m25_264, m25_267, m25_268, m25_270, m25_271, m25_273, m25_276, m25_279, m25_280, m25_281, m25_282, m25_285u, m25_285i, m25_285r, m25_285g, m25_287, m25_288, m25_290, m25_291, m25_293, m25_296, m25_299, m25_300, m25_301, m25_302, m25_305u, m25_305i, m25_305r, m25_305g, m25_307, m25_308u, m25_308i, m25_308r, m25_308g, m25_310, m25_312, m25_314, m25_317, m25_318, m25_320, m25_322, m25_323, m25_326u, m25_326i, m25_326r, m25_326g, m25_328, m25_330, m25_333, m25_334, m25_335, m25_336, m25_338, m25_340, m25_342, m25_345, m25_348, m25_349, m25_350, m25_351, m25_354i, m25_356, m25_358, m25_361, m25_363, m25_366, m25_368, m25_371, m25_373, m25_375, m25_377, m25_378, m25_381, m25_382, nb0, nb1, ou_a, Option.toList_some, Option.toList_none, List.nil_append, List.cons_append]
  refine ca 0 _ _ _ ?_
  simp [okS_i, o4, o5, o6, o12, o13, o14, o15, o16, o17, m25_237, m25_238, m25_240, m25_243u, m25_243i, m25_243r, m25_243g, m25_245, m25_246, m25_248, m25_251u, m25_251i, m25_251r, m25_251g, m25_253, m25_255, m25_257, m25_260, m25_261, m25_262, m25_264, m25_267, m25_268, m25_270, m25_271, m25_273, m25_276, m25_279, m25_280, m25_281, m25_282, m25_285u, m25_285i, m25_285r, m25_285g, m25_287, m25_288, m25_290, m25_291, m25_293, m25_296, m25_299, m25_300, m25_301, m25_302, m25_305u, m25_305i, m25_305r, m25_305g, m25_307, m25_308u, m25_308i, m25_308r, m25_308g, m25_310, m25_312, m25_314, m25_317, m25_318, m25_320, m25_322, m25_323, m25_326u, m25_326i, m25_326r, m25_326g, m25_328, m25_330, m25_333, m25_334, m25_335, m25_336, m25_338, m25_340, m25_342, m25_345, m25_348, m25_349, m25_350, m25_351, m25_354i, m25_356, m25_358, m25_361, m25_363, m25_366, m25_368, m25_371, m25_373, m25_375, m25_377, m25_378, m25_381, m25_382, nb0, nb1, ou_a, Option.toList_some, Option.toList_none, List.nil_append, List.cons_append]
  rw [vw]
  refine vb 13 _ _ _ ?_
  simp [okS_i, o4, o5, o6, o12, o13, o14, o15, o16, o17, m25_237, m25_238, m25_240, m25_243u, m25_243i, m25_243r, m25_243g, m25_245, m25_246, m25_248, m25_251u, m25_251i, m25_251r, m25_251g, m25_253, m25_255, m25_257, m25_260, m25_261, m25_262, m25_264, m25_267, m25_268, m25_270, m25_271, m25_273, m25_276, m25_279, m25_280, m25_281, m25_282, m25_285u, m25_285i, m25_285r, m25_285g, m25_287, m25_288, m25_290, m25_291, m25_293, m25_296, m25_299, m25_300, m25_301, m25_302, m25_305u, m25_305i, m25_305r, m25_305g, m25_307, m25_308u, m25_308i, m25_308r, m25_308g, m25_310, m25_312, m25_314, m25_317, m25_318, m25_320, m25_322, m25_323, m25_326u, m25_326i, m25_326r, m25_326g, m25_328, m25_330, m25_333, m25_334, m25_335, m25_336, m25_338, m25_340, m25_342, m25_345, m25_348, m25_349, m25_350, m25_351, m25_354i, m25_356, m25_358, m25_361, m25_363, m25_366, m25_368, m25_371, m25_373, m25_375, m25_377, m25_378, m25_381, m25_382, nb0, nb1, ou_a, Option.toList_some, Option.toList_none, List.nil_append, List.cons_append]
  refine cb 13 _ _ _ ?_
  by_cases q : kk < ln
  · have q' := q
    rw [lt_i] at q'
    have esk : (st + kk).toInt = st.toInt + kk.toInt := add_i (by omega) (by omega)
    have elk : (ln - kk).toInt = ln.toInt - kk.toInt := sub_i (by omega) (by omega)
    obtain ⟨nm, em⟩ : ∃ nm : Nat, (ln - kk).toInt = nm := ⟨(ln - kk).toInt.toNat, (Int.toNat_of_nonneg (by omega)).symm⟩
    have lX : LN (wr 0 (-1) 0 lb (adv 256 (abN st (bt sd) nk 0 (s, A)))).2 := LN_ou lY (hlb.trans A0l_9.symm)
    obtain ⟨lc, ⟨hlc, gc⟩, vc⟩ := fl24 (x := wr 0 (-1) 0 lb (adv 256 (abN st (bt sd) nk 0 (s, A)))) (sd := sd) (fm := kk) (to := ln) (st := st + kk) (l0 := (wr 0 (-1) 0 lb (adv 256 (abN st (bt sd) nk 0 (s, A)))).2 9) lX ((lX 9).trans A0l_9) k0 k1 (by omega) (by omega) (by omega) (by omega)
    have cc := cl18 (x := wr 0 (-1) 0 lb (adv 256 (abN st (bt sd) nk 0 (s, A)))) (st := st + kk) (ln := ln - kk) (l := lc) (g := fun t => bt sd (kk + t)) em lX hlc y0 (by show 0 ≤ ((adv 256 (abN st (bt sd) nk 0 (s, A))).1 7).toInt; omega) y7.2 (by omega) (by omega) (by omega) (by omega) (by show _ ≤ ((adv 256 (abN st (bt sd) nk 0 (s, A))).1 7).toInt + 16; omega) (fun t t0 t1 => gc t t0 (by omega))
    have eF : adv 256 (abN (st + kk) (fun t => bt sd (kk + t)) nm 0 (adv 256 (abN st (bt sd) nk 0 (s, A)))) = (adv 256 (abN st (bt sd) nn 0 (s, A))) := by
      rw [abN_shift (g := bt sd) _ _ _ (by decide) (by rw [i_0]; omega) (fun _ _ _ => rfl), Int32.add_zero, two (k := nk) (c := kk) hA p7 (by omega) (by omega) (fun t t0 t1 => by rw [add_i (by omega) (by omega)]; omega), abN_split _ _ _ _ _ (by decide) (by rw [i_0]; omega) (by rw [i_0]; omega), show nk + nm = nn by omega]
    have eG : adv 256 (abN (st + kk) (fun t => bt sd (kk + t)) nm 0 (wr 0 (-1) 0 lb (adv 256 (abN st (bt sd) nk 0 (s, A))))) = wr 0 (-1) 0 lb (adv 256 (abN st (bt sd) nn 0 (s, A))) := by rw [abN_wr, adv_wr, eF]
    rw [eG, wr_wr] at cc
    have f7c : ((adv 256 (abN st (bt sd) nk 0 (s, A))).1 7).toInt ≤ ((adv 256 (abN st (bt sd) nn 0 (s, A))).1 7).toInt := by
      have z := adv_bd 256 (abN (st + kk) (fun t => bt sd (kk + t)) nm 0 (adv 256 (abN st (bt sd) nk 0 (s, A)))) (by rw [abN_s (by decide) (by decide) (by decide) (by decide)]; omega) (by rw [abN_s (by decide) (by decide) (by decide) (by decide)]; exact y7.2)
      rw [eF, abN_s (by decide) (by decide) (by decide) (by decide)] at z
      exact z.1
    have n3 : ¬ (adv 256 (abN st (bt sd) nn 0 (s, A))).1 7 - (adv 256 (abN st (bt sd) nk 0 (s, A))).1 7 < 0 := by rw [nn_i, sub_i (by omega) (by omega)]; omega
    have tr := tri (s 7) ((adv 256 (abN st (bt sd) nk 0 (s, A))).1 7) ((adv 256 (abN st (bt sd) nn 0 (s, A))).1 7)
    simp [q, okS_i, o4, o5, o6, o12, o13, o14, o15, o16, o17, m25_237, m25_238, m25_240, m25_243u, m25_243i, m25_243r, m25_243g, m25_245, m25_246, m25_248, m25_251u, m25_251i, m25_251r, m25_251g, m25_253, m25_255, m25_257, m25_260, m25_261, m25_262, m25_264, m25_267, m25_268, m25_270, m25_271, m25_273, m25_276, m25_279, m25_280, m25_281, m25_282, m25_285u, m25_285i, m25_285r, m25_285g, m25_287, m25_288, m25_290, m25_291, m25_293, m25_296, m25_299, m25_300, m25_301, m25_302, m25_305u, m25_305i, m25_305r, m25_305g, m25_307, m25_308u, m25_308i, m25_308r, m25_308g, m25_310, m25_312, m25_314, m25_317, m25_318, m25_320, m25_322, m25_323, m25_326u, m25_326i, m25_326r, m25_326g, m25_328, m25_330, m25_333, m25_334, m25_335, m25_336, m25_338, m25_340, m25_342, m25_345, m25_348, m25_349, m25_350, m25_351, m25_354i, m25_356, m25_358, m25_361, m25_363, m25_366, m25_368, m25_371, m25_373, m25_375, m25_377, m25_378, m25_381, m25_382, nb0, nb1, ou_a, Option.toList_some, Option.toList_none, List.nil_append, List.cons_append]
    refine op2c (x := wr 0 (-1) 0 lb (adv 256 (abN st (bt sd) nk 0 (s, A)))) (fun z => c1 (y1.symm.trans z)) rfl (by rw [nn_i]; omega) (by rw [lt_i, i_256]; omega) 13 _ _ _ ?_
    simp [okS_i, o4, o5, o6, o12, o13, o14, o15, o16, o17, m25_237, m25_238, m25_240, m25_243u, m25_243i, m25_243r, m25_243g, m25_245, m25_246, m25_248, m25_251u, m25_251i, m25_251r, m25_251g, m25_253, m25_255, m25_257, m25_260, m25_261, m25_262, m25_264, m25_267, m25_268, m25_270, m25_271, m25_273, m25_276, m25_279, m25_280, m25_281, m25_282, m25_285u, m25_285i, m25_285r, m25_285g, m25_287, m25_288, m25_290, m25_291, m25_293, m25_296, m25_299, m25_300, m25_301, m25_302, m25_305u, m25_305i, m25_305r, m25_305g, m25_307, m25_308u, m25_308i, m25_308r, m25_308g, m25_310, m25_312, m25_314, m25_317, m25_318, m25_320, m25_322, m25_323, m25_326u, m25_326i, m25_326r, m25_326g, m25_328, m25_330, m25_333, m25_334, m25_335, m25_336, m25_338, m25_340, m25_342, m25_345, m25_348, m25_349, m25_350, m25_351, m25_354i, m25_356, m25_358, m25_361, m25_363, m25_366, m25_368, m25_371, m25_373, m25_375, m25_377, m25_378, m25_381, m25_382, nb0, nb1, ou_a, Option.toList_some, Option.toList_none, List.nil_append, List.cons_append]
    refine vc 13 _ _ _ ?_
    simp [okS_i, o4, o5, o6, o12, o13, o14, o15, o16, o17, m25_237, m25_238, m25_240, m25_243u, m25_243i, m25_243r, m25_243g, m25_245, m25_246, m25_248, m25_251u, m25_251i, m25_251r, m25_251g, m25_253, m25_255, m25_257, m25_260, m25_261, m25_262, m25_264, m25_267, m25_268, m25_270, m25_271, m25_273, m25_276, m25_279, m25_280, m25_281, m25_282, m25_285u, m25_285i, m25_285r, m25_285g, m25_287, m25_288, m25_290, m25_291, m25_293, m25_296, m25_299, m25_300, m25_301, m25_302, m25_305u, m25_305i, m25_305r, m25_305g, m25_307, m25_308u, m25_308i, m25_308r, m25_308g, m25_310, m25_312, m25_314, m25_317, m25_318, m25_320, m25_322, m25_323, m25_326u, m25_326i, m25_326r, m25_326g, m25_328, m25_330, m25_333, m25_334, m25_335, m25_336, m25_338, m25_340, m25_342, m25_345, m25_348, m25_349, m25_350, m25_351, m25_354i, m25_356, m25_358, m25_361, m25_363, m25_366, m25_368, m25_371, m25_373, m25_375, m25_377, m25_378, m25_381, m25_382, nb0, nb1, ou_a, Option.toList_some, Option.toList_none, List.nil_append, List.cons_append]
    refine cc 13 _ _ _ ?_
    have e7a : (wr 0 (-1) 0 la (adv 256 (abN st (bt sd) nn 0 (s, A)))).1 7 = (adv 256 (abN st (bt sd) nn 0 (s, A))).1 7 := rfl
    have e7b : (wr 0 (-1) 0 lb (adv 256 (abN st (bt sd) nn 0 (s, A)))).1 7 = (adv 256 (abN st (bt sd) nn 0 (s, A))).1 7 := rfl
    have e7c : (wr 0 (-1) 0 lb (adv 256 (abN st (bt sd) nk 0 (s, A)))).1 7 = (adv 256 (abN st (bt sd) nk 0 (s, A))).1 7 := rfl
    rw [e7b, e7c]
    simp [n1, n2, n3, tr, okS_i, o4, o5, o6, o12, o13, o14, o15, o16, o17, m25_237, m25_238, m25_240, m25_243u, m25_243i, m25_243r, m25_243g, m25_245, m25_246, m25_248, m25_251u, m25_251i, m25_251r, m25_251g, m25_253, m25_255, m25_257, m25_260, m25_261, m25_262, m25_264, m25_267, m25_268, m25_270, m25_271, m25_273, m25_276, m25_279, m25_280, m25_281, m25_282, m25_285u, m25_285i, m25_285r, m25_285g, m25_287, m25_288, m25_290, m25_291, m25_293, m25_296, m25_299, m25_300, m25_301, m25_302, m25_305u, m25_305i, m25_305r, m25_305g, m25_307, m25_308u, m25_308i, m25_308r, m25_308g, m25_310, m25_312, m25_314, m25_317, m25_318, m25_320, m25_322, m25_323, m25_326u, m25_326i, m25_326r, m25_326g, m25_328, m25_330, m25_333, m25_334, m25_335, m25_336, m25_338, m25_340, m25_342, m25_345, m25_348, m25_349, m25_350, m25_351, m25_354i, m25_356, m25_358, m25_361, m25_363, m25_366, m25_368, m25_371, m25_373, m25_375, m25_377, m25_378, m25_381, m25_382, nb0, nb1, ou_a, Option.toList_some, Option.toList_none, List.nil_append, List.cons_append]
    rw [← vw]
    exact tail (s := (wr 0 (-1) 0 la (adv 256 (abN st (bt sd) nn 0 (s, A)))).1) (A := (wr 0 (-1) 0 la (adv 256 (abN st (bt sd) nn 0 (s, A)))).2) (B := (wr 0 (-1) 0 lc (adv 256 (abN st (bt sd) nn 0 (s, A)))).2) lp o4 o5 o6 (okS_i _) (okS_i _) (okS_i _) (okS_i _) (okS_i _) (okS_i _) (okS_i _) (okS_i _) (okS_i _) (okS_i _) (okS_i _) ⟨LN_ou lF (hla.trans A0l_9.symm), LN_ou lF (hlc.trans A0l_9.symm), fun j j9 => by show ou _ 9 _ j = ou _ 9 _ j; rw [ou_a, if_neg j9, ou_a, if_neg j9], f0, rfl, rfl, rfl, f7a, f7b, fun z => absurd (f1.symm.trans z) c1⟩ hx1 hx2 hx3
  · have ekl : kk = ln := Int32.toInt_inj.mp (by have q' := q; rw [lt_i] at q'; omega)
    subst ekl
    have enn : nk = nn := by omega
    subst enn
    have e7c : (wr 0 (-1) 0 lb (adv 256 (abN st (bt sd) nk 0 (s, A)))).1 7 = (adv 256 (abN st (bt sd) nk 0 (s, A))).1 7 := rfl
    simp [q, n1, n2, okS_i, o4, o5, o6, o12, o13, o14, o15, o16, o17, m25_237, m25_238, m25_240, m25_243u, m25_243i, m25_243r, m25_243g, m25_245, m25_246, m25_248, m25_251u, m25_251i, m25_251r, m25_251g, m25_253, m25_255, m25_257, m25_260, m25_261, m25_262, m25_264, m25_267, m25_268, m25_270, m25_271, m25_273, m25_276, m25_279, m25_280, m25_281, m25_282, m25_285u, m25_285i, m25_285r, m25_285g, m25_287, m25_288, m25_290, m25_291, m25_293, m25_296, m25_299, m25_300, m25_301, m25_302, m25_305u, m25_305i, m25_305r, m25_305g, m25_307, m25_308u, m25_308i, m25_308r, m25_308g, m25_310, m25_312, m25_314, m25_317, m25_318, m25_320, m25_322, m25_323, m25_326u, m25_326i, m25_326r, m25_326g, m25_328, m25_330, m25_333, m25_334, m25_335, m25_336, m25_338, m25_340, m25_342, m25_345, m25_348, m25_349, m25_350, m25_351, m25_354i, m25_356, m25_358, m25_361, m25_363, m25_366, m25_368, m25_371, m25_373, m25_375, m25_377, m25_378, m25_381, m25_382, nb0, nb1, ou_a, Option.toList_some, Option.toList_none, List.nil_append, List.cons_append]
    rw [← vw]
    exact tail (s := (wr 0 (-1) 0 la (adv 256 (abN st (bt sd) nk 0 (s, A)))).1) (A := (wr 0 (-1) 0 la (adv 256 (abN st (bt sd) nk 0 (s, A)))).2) (B := (wr 0 (-1) 0 lb (adv 256 (abN st (bt sd) nk 0 (s, A)))).2) lp o4 o5 o6 (okS_i _) (okS_i _) (okS_i _) (okS_i _) (okS_i _) (okS_i _) (okS_i _) (okS_i _) (okS_i _) (okS_i _) o17 ⟨LN_ou lF (hla.trans A0l_9.symm), LN_ou lF (hlb.trans A0l_9.symm), fun j j9 => by show ou _ 9 _ j = ou _ 9 _ j; rw [ou_a, if_neg j9, ou_a, if_neg j9], f0, rfl, rfl, rfl, f7a, f7b, fun z => absurd (f1.symm.trans z) c1⟩ hx1 hx2 hx3
set_option maxRecDepth 1000000 in
set_option maxHeartbeats 20000000 in
theorem op3c {n : Nat} (lp : LP vs Q n) {ix sd d st ln y : Int32} {k4 k5 k11 k12 k13 k14 k15 k16 k17 : Slot} {s : Nat → Int32} {A B : Nat → List Int32} (o4 : okS k4) (o5 : okS k5) (o11 : okS k11) (o12 : okS k12) (o13 : okS k13) (o14 : okS k14) (o15 : okS k15) (o16 : okS k16) (o17 : okS k17) (r : RL s A B) (hx1 : 0 ≤ ix.toInt) (hx2 : ix.toInt + 4 ≤ 1000) (hx3 : (vs.length : Int) ≤ ix.toInt + 4 + n) (ed : d = s 7) (l8 : ln.toInt ≤ 8) (ch : (s 1 = 0 ∨ (¬ s 1 = 0 ∧ (st < 0 ∨ ¬ st < 256))) ∨ (¬ s 1 = 0 ∧ 0 ≤ st.toInt ∧ 1 ≤ ln.toInt ∧ st.toInt + ln.toInt ≤ 256 ∧ st.toInt + ln.toInt ≤ (s 7).toInt + 11)) : M25 214 [.val (.ref 0), .val (.ref 1), .val (.ref 14), .val (.int ix), k4, k5, .val (.int y), .val (.int sd), .val (.int d), .val (.int st), .val (.int ln), k11, k12, k13, k14, k15, k16, k17] [] (put 1 [(.array .int, vs.map Value.int)] s A (tl s B)) Q := by
  by_cases g : 0 < ln
  · have g0 : 0 < ln.toInt := by rw [lt_i, i_0] at g; exact g
    have e1 := add1_i (a := ln) (by omega)
    have n1 : ¬ ln + 1 = 0 := fun q => by have q' := congrArg Int32.toInt q; rw [e1, i_0] at q'; omega
    have em : ((y >>> (3 &&& 31) &&& 15) % (ln + 1)).toInt = (y >>> (3 &&& 31) &&& 15).toInt.tmod (ln + 1).toInt := Int32.toInt_mod _ _
    have m0 : 0 ≤ ((y >>> (3 &&& 31) &&& 15) % (ln + 1)).toInt := by rw [em]; exact Int.tmod_nonneg _ (and_bd _ _ (by decide)).1
    have m1 : ((y >>> (3 &&& 31) &&& 15) % (ln + 1)).toInt < (ln + 1).toInt := by rw [em]; exact Int.tmod_lt_of_pos _ (by omega)
    obtain ⟨kk, hk⟩ : ∃ kk, kk = (y >>> (3 &&& 31) &&& 15) % (ln + 1) := ⟨_, rfl⟩
    rw [← hk] at m0 m1
    have hk' := hk.symm
    simp [g, n1, hk', okS_i, o4, o5, o11, o12, o13, o14, o15, o16, o17, m25_214, m25_216, m25_219, m25_221, m25_222, m25_223, m25_225, m25_226, m25_228, m25_229, m25_230, m25_231, m25_234, m25_235u, m25_235i, m25_235r, m25_235g, nb0, nb1, ou_a, Option.toList_some, Option.toList_none, List.nil_append, List.cons_append]
    rcases ch with c1 | ⟨c1, s0, l1, sl, w⟩
    · exact op3a lp o4 o5 (okS_i _) o12 o13 o14 o15 o16 o17 r hx1 hx2 hx3 c1
    · exact op3b lp o4 o5 (okS_i _) o12 o13 o14 o15 o16 o17 r hx1 hx2 hx3 ed c1 s0 l1 l8 sl w m0 (by omega)
  · simp [g, okS_i, o4, o5, o11, o12, o13, o14, o15, o16, o17, m25_214, m25_216, m25_219, m25_221, m25_222, m25_223, m25_225, m25_226, m25_228, m25_229, m25_230, m25_231, m25_234, m25_235u, m25_235i, m25_235r, m25_235g, nb0, nb1, ou_a, Option.toList_some, Option.toList_none, List.nil_append, List.cons_append]
    rcases ch with c1 | ⟨c1, s0, l1, sl, w⟩
    · exact op3a lp o4 o5 (okS_i _) o12 o13 o14 o15 o16 o17 r hx1 hx2 hx3 c1
    · exact absurd (by rw [lt_i, i_0]; omega) g
set_option maxRecDepth 1000000 in
set_option maxHeartbeats 20000000 in
theorem op3 {n : Nat} (lp : LP vs Q n) {ix : Int32} {k4 k5 k6 k7 k8 k9 k10 k11 k12 k13 k14 k15 k16 k17 : Slot} {s : Nat → Int32} {A B : Nat → List Int32} (o4 : okS k4) (o5 : okS k5) (o6 : okS k6) (o7 : okS k7) (o8 : okS k8) (o9 : okS k9) (o10 : okS k10) (o11 : okS k11) (o12 : okS k12) (o13 : okS k13) (o14 : okS k14) (o15 : okS k15) (o16 : okS k16) (o17 : okS k17) (r : RL s A B) (hx1 : 0 ≤ ix.toInt) (hx2 : ix.toInt + 4 ≤ 1000) (hx3 : (vs.length : Int) ≤ ix.toInt + 4 + n) (x0 : inB ix vs) (x1 : inB (ix + 1) vs) (x2 : inB (ix + 2) vs) (x3 : inB (ix + 3) vs) (ha : getA vs ix &&& 3 = 3) : M25 30 [.val (.ref 0), .val (.ref 1), .val (.ref 14), .val (.int ix), k4, k5, k6, k7, k8, k9, k10, k11, k12, k13, k14, k15, k16, k17] [] (put 1 [(.array .int, vs.map Value.int)] s A (tl s B)) Q := by
  have p7 := r.2.2.2.2.2.2.2.1
  have q7 := r.2.2.2.2.2.2.2.2.1
  have ex := and_bd (getA vs (ix + 1)) 7 (by decide)
  have ey := and_bd (getA vs (ix + 2)) 7 (by decide)
  have ex' : (getA vs (ix + 1) &&& 7).toInt ≤ 7 := ex.2
  have ey' : (getA vs (ix + 2) &&& 7).toInt ≤ 7 := ey.2
  have f1 : (s 7 + (getA vs (ix + 1) &&& 7)).toInt = (s 7).toInt + (getA vs (ix + 1) &&& 7).toInt := add_i (by omega) (by omega)
  have f2 : (s 7 + (getA vs (ix + 1) &&& 7) - 4).toInt = (s 7).toInt + (getA vs (ix + 1) &&& 7).toInt - 4 := by rw [sub_i (by rw [i_4]; omega) (by rw [i_4]; omega), f1, i_4]
  have f3 : (1 + (getA vs (ix + 2) &&& 7)).toInt = 1 + (getA vs (ix + 2) &&& 7).toInt := by rw [add_i (by rw [i_1]; omega) (by rw [i_1]; omega), i_1]
  obtain ⟨st, es⟩ : ∃ st, s 7 + (getA vs (ix + 1) &&& 7) - 4 = st := ⟨_, rfl⟩
  obtain ⟨ln, el⟩ : ∃ ln, 1 + (getA vs (ix + 2) &&& 7) = ln := ⟨_, rfl⟩
  rw [es] at f2
  rw [el] at f3
  by_cases c : st < 0
  · simp [c, es, el, x0, x1, x2, x3, ha, okS_i, o4, o5, o6, o7, o8, o9, o10, o11, o12, o13, o14, o15, o16, o17, -Int64.toInt32_and, -Int64.toInt32_or, -Int64.toInt32_xor, -Int32.toInt64_and, -Int32.toInt64_or, -Int32.toInt64_xor, -Int32.toInt8_and, -Int32.toUInt32_and, -Int32.toUInt32_or, -Int32.toUInt32_xor, m1_0, m1_1_0, m1_1_1, m1_1_2, m1_1_3, m1_1_4, m1_1_5, m1_1_6, m1_1_7, m1_1_8, m1_1_9, m1_1_10, m1_1_11, m1_1_12, m1_1_13, m1_1_14, m1_76, m1_77, m1_80, m1_81, m1_82, m1_85, m1_86, m1_87, m1_90, m1_91, m1_92, m1_95, m1_96, m1_97, m1_100, m1_101, m1_102, m1_105, m1_106, m1_107, m1_110, m1_111, m1_112, m1_115, m1_116, m1_117, m1_120, m1_121, m1_122, m1_123, m1_126, m1_129, m1_130, m1_131, m1_132, m1_135, m1_138, m1_139, m1_140, m1_143, m1_146, m1_147, m1_150, m1_153, m1_154, m1_155, m1_156, m1_159, m1_162, m1_163, m1_166, m1_169, m1_170, m1_171, m1_172, m1_175, m1_176, m1_177, m1_180, m1_181, m1_182, m25_30, m25_31, m25_32, m25_32p, m25_33, m25_34, m25_35u, m25_35i, m25_35r, m25_35g, m25_37, m25_38, m25_39, m25_40, m25_41, m25_41p, m25_42u, m25_42i, m25_42r, m25_42g, m25_44, m25_45, m25_46, m25_47, m25_48, m25_48p, m25_49u, m25_49i, m25_49r, m25_49g, m25_51, m25_52, m25_53, m25_54, m25_55, m25_55p, m25_56u, m25_56i, m25_56r, m25_56g, m25_58, m25_60, m25_102, m25_104, m25_105, m25_132, m25_134, m25_135, m25_162, m25_163, m25_164, m25_167u, m25_167i, m25_167r, m25_167g, m25_169, m25_171, m25_173, m25_175, m25_176, m25_177, m25_178, m25_179u, m25_179i, m25_179r, m25_179g, m25_181, m25_182, m25_184, m25_186, m25_187, m25_188u, m25_188i, m25_188r, m25_188g, m25_190, m25_192, m25_195, m25_197, m25_199, m25_200, m25_203, m25_206, m25_209, m25_211, m25_212i, nb0, nb1, ou_a, Option.toList_some, Option.toList_none, List.nil_append, List.cons_append]
    by_cases c1 : s 1 = 0
    · exact op3c lp (okS_i _) (okS_i _) o11 o12 o13 o14 o15 o16 o17 r hx1 hx2 hx3 rfl (by omega) (Or.inl (Or.inl c1))
    · exact op3c lp (okS_i _) (okS_i _) o11 o12 o13 o14 o15 o16 o17 r hx1 hx2 hx3 rfl (by omega) (Or.inl (Or.inr ⟨c1, Or.inl c⟩))
  · have s0 := nn_i.mp c
    have f4 : (st + ln).toInt = st.toInt + ln.toInt := add_i (by omega) (by omega)
    by_cases g : 256 < st + ln
    · have f5 : (256 - st).toInt = 256 - st.toInt := by rw [sub_i (by rw [i_256]; omega) (by rw [i_256]; omega), i_256]
      have g' := g
      rw [lt_i, i_256, f4] at g'
      simp [c, g, es, el, x0, x1, x2, x3, ha, okS_i, o4, o5, o6, o7, o8, o9, o10, o11, o12, o13, o14, o15, o16, o17, -Int64.toInt32_and, -Int64.toInt32_or, -Int64.toInt32_xor, -Int32.toInt64_and, -Int32.toInt64_or, -Int32.toInt64_xor, -Int32.toInt8_and, -Int32.toUInt32_and, -Int32.toUInt32_or, -Int32.toUInt32_xor, m1_0, m1_1_0, m1_1_1, m1_1_2, m1_1_3, m1_1_4, m1_1_5, m1_1_6, m1_1_7, m1_1_8, m1_1_9, m1_1_10, m1_1_11, m1_1_12, m1_1_13, m1_1_14, m1_76, m1_77, m1_80, m1_81, m1_82, m1_85, m1_86, m1_87, m1_90, m1_91, m1_92, m1_95, m1_96, m1_97, m1_100, m1_101, m1_102, m1_105, m1_106, m1_107, m1_110, m1_111, m1_112, m1_115, m1_116, m1_117, m1_120, m1_121, m1_122, m1_123, m1_126, m1_129, m1_130, m1_131, m1_132, m1_135, m1_138, m1_139, m1_140, m1_143, m1_146, m1_147, m1_150, m1_153, m1_154, m1_155, m1_156, m1_159, m1_162, m1_163, m1_166, m1_169, m1_170, m1_171, m1_172, m1_175, m1_176, m1_177, m1_180, m1_181, m1_182, m25_30, m25_31, m25_32, m25_32p, m25_33, m25_34, m25_35u, m25_35i, m25_35r, m25_35g, m25_37, m25_38, m25_39, m25_40, m25_41, m25_41p, m25_42u, m25_42i, m25_42r, m25_42g, m25_44, m25_45, m25_46, m25_47, m25_48, m25_48p, m25_49u, m25_49i, m25_49r, m25_49g, m25_51, m25_52, m25_53, m25_54, m25_55, m25_55p, m25_56u, m25_56i, m25_56r, m25_56g, m25_58, m25_60, m25_102, m25_104, m25_105, m25_132, m25_134, m25_135, m25_162, m25_163, m25_164, m25_167u, m25_167i, m25_167r, m25_167g, m25_169, m25_171, m25_173, m25_175, m25_176, m25_177, m25_178, m25_179u, m25_179i, m25_179r, m25_179g, m25_181, m25_182, m25_184, m25_186, m25_187, m25_188u, m25_188i, m25_188r, m25_188g, m25_190, m25_192, m25_195, m25_197, m25_199, m25_200, m25_203, m25_206, m25_209, m25_211, m25_212i, nb0, nb1, ou_a, Option.toList_some, Option.toList_none, List.nil_append, List.cons_append]
      by_cases c1 : s 1 = 0
      · exact op3c lp (okS_i _) (okS_i _) o11 o12 o13 o14 o15 o16 o17 r hx1 hx2 hx3 rfl (by omega) (Or.inl (Or.inl c1))
      by_cases c2 : st < 256
      · have c2' := c2
        rw [lt_i, i_256] at c2'
        exact op3c lp (okS_i _) (okS_i _) o11 o12 o13 o14 o15 o16 o17 r hx1 hx2 hx3 rfl (by omega) (Or.inr ⟨c1, s0, by omega, by omega, by omega⟩)
      · exact op3c lp (okS_i _) (okS_i _) o11 o12 o13 o14 o15 o16 o17 r hx1 hx2 hx3 rfl (by omega) (Or.inl (Or.inr ⟨c1, Or.inr c2⟩))
    · have g' := g
      rw [lt_i, i_256, f4] at g'
      simp [c, g, es, el, x0, x1, x2, x3, ha, okS_i, o4, o5, o6, o7, o8, o9, o10, o11, o12, o13, o14, o15, o16, o17, -Int64.toInt32_and, -Int64.toInt32_or, -Int64.toInt32_xor, -Int32.toInt64_and, -Int32.toInt64_or, -Int32.toInt64_xor, -Int32.toInt8_and, -Int32.toUInt32_and, -Int32.toUInt32_or, -Int32.toUInt32_xor, m1_0, m1_1_0, m1_1_1, m1_1_2, m1_1_3, m1_1_4, m1_1_5, m1_1_6, m1_1_7, m1_1_8, m1_1_9, m1_1_10, m1_1_11, m1_1_12, m1_1_13, m1_1_14, m1_76, m1_77, m1_80, m1_81, m1_82, m1_85, m1_86, m1_87, m1_90, m1_91, m1_92, m1_95, m1_96, m1_97, m1_100, m1_101, m1_102, m1_105, m1_106, m1_107, m1_110, m1_111, m1_112, m1_115, m1_116, m1_117, m1_120, m1_121, m1_122, m1_123, m1_126, m1_129, m1_130, m1_131, m1_132, m1_135, m1_138, m1_139, m1_140, m1_143, m1_146, m1_147, m1_150, m1_153, m1_154, m1_155, m1_156, m1_159, m1_162, m1_163, m1_166, m1_169, m1_170, m1_171, m1_172, m1_175, m1_176, m1_177, m1_180, m1_181, m1_182, m25_30, m25_31, m25_32, m25_32p, m25_33, m25_34, m25_35u, m25_35i, m25_35r, m25_35g, m25_37, m25_38, m25_39, m25_40, m25_41, m25_41p, m25_42u, m25_42i, m25_42r, m25_42g, m25_44, m25_45, m25_46, m25_47, m25_48, m25_48p, m25_49u, m25_49i, m25_49r, m25_49g, m25_51, m25_52, m25_53, m25_54, m25_55, m25_55p, m25_56u, m25_56i, m25_56r, m25_56g, m25_58, m25_60, m25_102, m25_104, m25_105, m25_132, m25_134, m25_135, m25_162, m25_163, m25_164, m25_167u, m25_167i, m25_167r, m25_167g, m25_169, m25_171, m25_173, m25_175, m25_176, m25_177, m25_178, m25_179u, m25_179i, m25_179r, m25_179g, m25_181, m25_182, m25_184, m25_186, m25_187, m25_188u, m25_188i, m25_188r, m25_188g, m25_190, m25_192, m25_195, m25_197, m25_199, m25_200, m25_203, m25_206, m25_209, m25_211, m25_212i, nb0, nb1, ou_a, Option.toList_some, Option.toList_none, List.nil_append, List.cons_append]
      by_cases c1 : s 1 = 0
      · exact op3c lp (okS_i _) (okS_i _) o11 o12 o13 o14 o15 o16 o17 r hx1 hx2 hx3 rfl (by omega) (Or.inl (Or.inl c1))
      · exact op3c lp (okS_i _) (okS_i _) o11 o12 o13 o14 o15 o16 o17 r hx1 hx2 hx3 rfl (by omega) (Or.inr ⟨c1, s0, by omega, by omega, by omega⟩)
set_option maxRecDepth 1000000 in
set_option maxHeartbeats 20000000 in
theorem loop (hlen : vs.length ≤ 260) (hQ : ∀ s A B, RL s A B → Q (some (.int 1)) (put 1 [(.array .int, vs.map Value.int)] s A (tl s B))) : ∀ n, LP vs Q n := by
  intro n
  induction n with
  | zero =>
    intro ix k4 k5 k6 k7 k8 k9 k10 k11 k12 k13 k14 k15 k16 k17 s A B o4 o5 o6 o7 o8 o9 o10 o11 o12 o13 o14 o15 o16 o17 h hx1 hx0 hx3
    have eL : (vs.length.toInt32).toInt = vs.length := len_toInt (by omega)
    have e3 : (ix + 3).toInt = ix.toInt + 3 := add_i (by show _ ≤ ix.toInt + 3; omega) (by show ix.toInt + 3 < _; omega)
    have g : ¬ ix + 3 < vs.length.toInt32 := by rw [lt_i, eL, e3]; omega
    rw [m25_22]
    simp [g, m25_23, m25_24, m25_25, m25_26, m25_26p, m25_27, m25_399, m25_400, nb0, nb1, ou_a, Option.toList_some, Option.toList_none, List.nil_append, List.cons_append]
    exact hQ s A B h
  | succ n ih =>
    intro ix k4 k5 k6 k7 k8 k9 k10 k11 k12 k13 k14 k15 k16 k17 s A B o4 o5 o6 o7 o8 o9 o10 o11 o12 o13 o14 o15 o16 o17 h hx1 hx0 hx3
    have eL : (vs.length.toInt32).toInt = vs.length := len_toInt (by omega)
    have e1 := add1_i (a := ix) (by omega)
    have e2 : (ix + 2).toInt = ix.toInt + 2 := add_i (by rw [i_2]; omega) (by rw [i_2]; omega)
    have e3 : (ix + 3).toInt = ix.toInt + 3 := add_i (by show _ ≤ ix.toInt + 3; omega) (by show ix.toInt + 3 < _; omega)
    by_cases g : ix + 3 < vs.length.toInt32
    · have q := g
      rw [lt_i, eL, e3] at q
      have x0 : inB ix vs := by rw [inB_iff]; omega
      have x1 : inB (ix + 1) vs := by rw [inB_iff, e1]; omega
      have x2 : inB (ix + 2) vs := by rw [inB_iff, e2]; omega
      have x3 : inB (ix + 3) vs := by rw [inB_iff, e3]; omega
      rw [m25_22]
      simp [g, m25_23, m25_24, m25_25, m25_26, m25_26p, m25_27, nb0, nb1, ou_a, Option.toList_some, Option.toList_none, List.nil_append, List.cons_append]
      have hx2 : ix.toInt + 4 ≤ 1000 := by omega
      have hx4 : (vs.length : Int) ≤ ix.toInt + 4 + n := by omega
      rcases and3 (getA vs ix) with ha | ha | ha | ha
      · exact op0 ih o4 o5 o6 o7 o8 o9 o10 o11 o12 o13 o14 o15 o16 o17 h hx1 hx2 hx4 x0 x1 x2 x3 ha
      · exact op1 ih o4 o5 o6 o7 o8 o9 o10 o11 o12 o13 o14 o15 o16 o17 h hx1 hx2 hx4 x0 x1 x2 x3 ha
      · exact op2 ih o4 o5 o6 o7 o8 o9 o10 o11 o12 o13 o14 o15 o16 o17 h hx1 hx2 hx4 x0 x1 x2 x3 ha
      · exact op3 ih o4 o5 o6 o7 o8 o9 o10 o11 o12 o13 o14 o15 o16 o17 h hx1 hx2 hx4 x0 x1 x2 x3 ha
    · rw [m25_22]
      simp [g, m25_23, m25_24, m25_25, m25_26, m25_26p, m25_27, m25_399, m25_400, nb0, nb1, ou_a, Option.toList_some, Option.toList_none, List.nil_append, List.cons_append]
      exact hQ s A B h
end Law
set_option maxRecDepth 1000000 in
set_option maxHeartbeats 20000000 in
theorem g0 : ∃ (s' : Nat → Int32), RL s' A0 A0 ∧ ∀ (b : Nat) (pre post : AHeap) (Q : Option Value → AHeap → Prop), Q none (put (b + 1) pre s' A0 post) → M0 103 [.val (.ref (b + 1)), .val (.int 16), .unset] [] (put (b + 1) pre (fun _ => 0) A0 post) Q := by
  apply Exists.intro
  refine And.intro ?_ (fun b pre post Q hq => ?_)
  rotate_left
  · simp [m0_0, m0_1, m0_4, m0_5, m0_12, m0_13, m0_20, m0_21, m0_28, m0_29, m0_37, m0_38, m0_45, m0_46, m0_53, m0_54, m0_61, m0_62, m0_70, m0_71, m0_79, m0_80, m0_87, m0_88, m0_95, m0_96, m0_103, m0_104u, m0_105, m0_106, m0_108, m0_111, m0_113i, m0_114, m0_115, m0_117, m0_120, m0_122i, m0_123, m0_124, m0_125, m0_128, m0_129, m0_130, m0_133, m0_134, m0_135, m0_138, m0_139, m0_140, m0_143, m0_144, m0_145, m0_148, m0_149, m0_150, m0_153, m0_154, m0_155, m0_158, m0_159, m0_160, m0_163, m0_164, m0_165, m0_168, m0_169, m0_170, m0_173, m0_174, m0_175, m0_178, m0_179, m0_180, m0_183, m0_184, m0_185, m0_188, m0_189, m0_190, m0_193, m0_194, m0_195, m0_198, m0_199, m0_200, m0_203, m0_204, m0_205, m0_208, nb0, nb1, ou_a, Option.toList_some, Option.toList_none, List.nil_append, List.cons_append]
    exact hq
  · exact ⟨fun _ => rfl, fun _ => rfl, fun _ _ => rfl, rfl, rfl, rfl, rfl, by show 0 ≤ (0 : Int32).toInt; decide, by show (0 : Int32).toInt ≤ 256; decide, fun _ => rfl⟩
set_option maxRecDepth 1000000 in
set_option maxHeartbeats 20000000 in
theorem own_k {vs : List Int32} {Q : Option Value → AHeap → Prop} (hlen : vs.length ≤ 260) (hQ : ∀ s A B, RL s A B → Q (some (.int 1)) (put 1 [((FieldType.array .int, vs.map Value.int) : FieldType × List Value)] s A (tl s B))) : M25 0 [.val (.ref 0), .unset, .unset, .unset, .unset, .unset, .unset, .unset, .unset, .unset, .unset, .unset, .unset, .unset, .unset, .unset, .unset, .unset] [] [((FieldType.array .int, vs.map Value.int) : FieldType × List Value)] Q := by
  obtain ⟨s, h, hv⟩ := g0
  simp [m25_0, m25_3, m25_4, m25_6, nb0, nb1, ou_a, Option.toList_some, Option.toList_none, List.nil_append, List.cons_append]
  refine Eq.mpr (own_ctor0 (pre := [((FieldType.array .int, vs.map Value.int) : FieldType × List Value)]) (b := 1) rfl (Nat.le_refl 1)) ?_
  refine hv 0 _ _ _ ?_
  simp [put_len, m25_9u, m25_10, m25_13, m25_14, m25_16, nb0, nb1, ou_a, Option.toList_some, Option.toList_none, List.nil_append, List.cons_append]
  refine Eq.mpr (own_ctor0 (pre := put 1 [((FieldType.array .int, vs.map Value.int) : FieldType × List Value)] s A0 []) (b := 14) (by rw [put_len]; rfl) (by decide)) ?_
  refine hv 13 _ _ _ ?_
  simp [m25_19u, m25_20, m25_21u, nb0, nb1, ou_a, Option.toList_some, Option.toList_none, List.nil_append, List.cons_append]
  rw [← vw]
  exact loop hlen hQ 260 0 _ _ _ _ _ _ _ _ _ _ _ _ _ _ s A0 A0 okS_u okS_u okS_u okS_u okS_u okS_u okS_u okS_u okS_u okS_u okS_u okS_u okS_u okS_u h (by decide) (by decide) (by rw [i_0]; omega)
set_option maxRecDepth 1000000 in
set_option maxHeartbeats 20000000 in
theorem own_law (vs : List Int32) (hlen : vs.length ≤ 260) : W tables_1 dn 1 x code ret 0 (entry [.ref 0] maxLocals) [] [(FieldType.array .int, vs.map Value.int)] (fun v H1 => v = some (.int 1) ∧ H1.length - ([(FieldType.array .int, vs.map Value.int)] : AHeap).length ≤ 64 ∧ tot tables_1 H1 - tot tables_1 [(FieldType.array .int, vs.map Value.int)] ≤ 70528) := by
  show M25 0 [.val (.ref 0), .unset, .unset, .unset, .unset, .unset, .unset, .unset, .unset, .unset, .unset, .unset, .unset, .unset, .unset, .unset, .unset, .unset] [] [(FieldType.array .int, vs.map Value.int)] _
  refine own_k hlen (fun s' A' B' h' => ⟨rfl, ?_, ?_⟩)
  · rw [vw, put_len]; simp
  · have hq : ∀ i, (A' i).length = (A0 i).length := h'.1
    have hq2 : ∀ i, (B' i).length = (A0 i).length := h'.2.1
    have hl : (put 1 [(FieldType.array .int, vs.map Value.int)] s' A' []).length = 14 := by rw [put_len]; rfl
    rw [vw, put_tot, pad_eq hl, put_tot, pad_1]
    simp only [hq, hq2, put_len, put_tot, pad_0, tot_nil, List.length_nil, List.length_cons, A0l_0, A0l_1, A0l_2, A0l_3, A0l_4, A0l_5, A0l_6, A0l_7, A0l_8, A0l_9, A0l_10, A0l_11]
    omega
theorem own_dn : ∀ f' l', dnOf dn x = some (f', l') → f' ≤ room_1.frames ∧ l' ≤ room_1.locals := by
  have h : dnOf dn x = some (4, 61) := by decide +kernel
  intro f' l' q; rw [h] at q; cases q; decide
theorem own_pn : Jvm.plainName x.cls = true := by first | (simp [Jvm.plainName, overriddenIn, x]; done) | decide +kernel
theorem own_rm (l : Launch) (Z : State) (a0 : Array Value) (hw : ∀ d ∈ tables_1, d.before a0 Z = true) (vs : List Int32) (hlen : vs.length ≤ 260) (h : Heap) (a : Addr) (cl : Cell) (Ar : Arr Z h a cl .int) (ev : cl.slots = (vs.map Value.int).toArray) :
    MetFree l x (head1 (Jvm.Cond.code x code maxLocals ret :: tables_1) room_1) (fun A U => A = #[.ref a] ∧ Z.Warmed39 U.vm ∧ U.heap = h) (fun _ _ _ _ _ => True) (fun _ U o U' => ∃ w L, o = .returned w ∧ (w = some (.int 1) ∧ Fr h.size L) ∧ FrameEnd U o U' L 64 70528) :=
  law_of (as := [.ref 0]) (mx := maxLocals) (f := room_1.frames) (lc := room_1.locals) hw l tables_1 own_pn (by show 1 ≤ 18; omega) (own_law vs hlen) own_dn (Sim.script tables_1 Ar ev)
set_option maxRecDepth 65536 in
set_option maxHeartbeats 40000000 in
theorem comes_1 {Post : Tables → Env → Array Value → State → Outcome → State → Prop} (hpost : ∀ tb e args s v u, (limb_1_1.after args s (.returned v) u = true ∧ limb_1_2.after args s (.returned v) u = true ∧ True) → FrameEnd s (.returned v) u (Jvm.fieldLocs frame_1_writes args s ++ Jvm.arrayLocs frame_1_arrays args s ++ Jvm.staticLocs frame_1_statics s) 64 70528 → Post tb e args s (.returned v) u) :
    ArmFor flags0 classFile x code maxLocals ret World_1 tables_1 room_1 Calls_1 rest_1 Pre_1 Post := by
  intro l hfl _ _ p e ha hc hk s m args below hf hA hF happ hP
  obtain ⟨hcalls, hrest, hpre⟩ := hP
  obtain ⟨-, -, -, hnamed, -, -, -, hat⟩ := (Spec.applies_iff hf).mp happ
  obtain ⟨hg, hn⟩ := and_e (Cond.before_iff.mp (show (Jvm.Cond.and given_1 narrow_1).before args s = true from hpre))
  obtain ⟨g0, q0⟩ := and_e hg
  obtain ⟨w0, rfl⟩ : ∃ w0 : Value, args = #[w0] := by
    have hs : args.size = 1 := by simpa [Cond.value, given_1] using g0
    obtain ⟨L⟩ := args
    match L, hs with
    | [w0], _ => exact ⟨w0, rfl⟩
  have hw := fun d (hd : d ∈ tables_1) => atoms_spec (ws := Jvm.Cond.code x code maxLocals ret :: tables_1) hat d (List.mem_cons_of_mem _ hd)
  have hfit : Fit s := fun {y c} hc i hi => by
    obtain ⟨ha, rfl⟩ := Array.getElem?_eq_some_iff.mp hc
    have q := List.all_eq_true.mp ((Array.all_eq_true_iff_forall_mem.mp hF) _ (Array.getElem_mem ha)) i (List.mem_range.mpr hi)
    simpa [Array.getElem?_eq_getElem hi] using q
  obtain ⟨n1, n2⟩ := and_e hn
  obtain ⟨a, ea⟩ := arr_v n1
  obtain rfl : w0 = .ref a := Option.some.inj ea
  obtain ⟨cl, Ar⟩ := Arr.start ea n1
  obtain ⟨r1, -⟩ := and_e (Cond.before_iff.mp (show rest_1_c.before _ s = true from hrest))
  obtain ⟨z, ez⟩ := is_v r1
  have hat' := Ar.fin (Vm.Alike.refl _)
  have hsz : cl.slots.size < 2 ^ 31 ∧ z = cl.slots.size.toInt32 := by
    simp only [Term.eval] at ea ez
    simp only [ea, hat', Option.bind_eq_bind, Option.bind_some] at ez
    split at ez
    · rename_i hlt; exact ⟨hlt, by simpa using ez.symm⟩
    · cases ez
  obtain ⟨vs, ev⟩ := script_of hfit Ar hsz.1
  have hlen : vs.length ≤ 260 := by
    have e1 : cl.slots.size = vs.length := by rw [ev]; simp
    have e2 := len_toInt hsz.1
    have n3 := Cond.le_ints (a := .length (.arg 0)) (b := .int 260) ez (Term.int_eval _)
    rw [n2] at n3
    have n4 := of_decide_eq_true (Option.some.inj n3).symm
    rw [Int32.le_iff_toInt_le, hsz.2, e2] at n4
    have e3 : (260 : Int32).toInt = 260 := by decide
    rw [e3] at n4
    omega
  obtain ⟨n, o, h1, h2, h3, _, L, rfl, ⟨rfl, N⟩, hq⟩ := own_rm l s _ hw vs hlen s.heap a cl Ar ev p e ha hc hk s m _ below hf ((Spec.applies_iff_loose hf).mp happ).1 ⟨rfl, State.Warmed39.refl s, rfl⟩ trivial
  exact ⟨n, _, h1, h2, h3, hpost _ _ _ _ _ _ ⟨Cond.after_iff.mpr rfl, Cond.after_iff.mpr (eq_i res_at (Term.int_eval (1)) rfl), trivial⟩ ⟨hq.1, hq.2.1, (hq.2.2.sift fun y hy => Or.inr (N y hy)).mono (by decide) (by decide)⟩⟩
theorem main_1_1 : Claimed_1_1 := comes_1 fun _ _ _ _ _ _ h hF => ⟨h.1, hF⟩
theorem main_1_2 : Claimed_1_2 := comes_1 fun _ _ _ _ _ _ h hF => ⟨h.2.1, hF⟩
end Jvm.Pilot.@@N@@
namespace Jvm.Pilot.@@N@@
open Jvm Jvm.ClassFile Sem Op Lib Jvm.Free Jvm.Stand Jvm.Pilot.@@N@@.Jvm.D
/-! MADE BY PROGRAM (witnessworld.py) out of the Statement's table words and the real class files: 11 classes; the members and pool entries that the words name. The judged class is class 1, her method 3. -/
namespace start1
open Jvm.ClassFile
def u (s : String) : CpInfo := .utf8 (stringToUtf16 s)
/-- a pool by its gaps: so many unusable entries, then the entry; so many at the end -/
def gap : Nat → List CpInfo → List CpInfo
  | 0, r => r
  | n + 1, r => .unusable :: gap n r
def poolList (es : List (Nat × CpInfo)) (last : Nat) : List CpInfo := es.foldr (fun e r => gap e.1 (e.2 :: r)) (gap last [])
def pool (es : List (Nat × CpInfo)) (last : Nat) : Array CpInfo := ⟨poolList es last⟩
def fileOf (pool : Array CpInfo) (this : Nat) (attrs : Array Attribute := #[]) (ms : Array MethodInfo := #[]) (fl : Nat := 33) (sup : Nat := 0) (ifs : Array Nat := #[]) (fds : Array FieldInfo := #[]) : ClassFile where
  minorVersion := 0
  majorVersion := 65
  constantPool := pool
  accessFlags := fl
  thisClass := this
  superClass := sup
  interfaces := ifs
  fields := fds
  methods := ms
  attributes := attrs
def plain (name : String) (sup : Option ClassId) : Class where
  name := name
  kind := .ordinary
  loader := none
  accessFlags := 33
  super := sup
  interfaces := #[]
  cf := none
  fields := #[]
  methods := #[]
  instanceTypes := #[]
  staticTypes := #[]
  resolved := #[]
  callSites := []
  init := .initialized
  statics := none
  mirror := none

def pool0 : Array CpInfo := pool [(5, u "<init>"), (0, u "()V"), (1, .class_ 10), (1, u "java/lang/Object")] 113

def k0c0 : Code := { maxStack := 0, maxLocals := 1, code := object_method_1_code, exceptionTable := #[], attributes := #[] }
def k0m0 : Method := { name := "<init>", desc := "()V", sig := { parameters := [], returnType := none }, accessFlags := 1, code := some k0c0 }
/-- java/lang/Object -/
def k0 : Class := { plain "java/lang/Object" none with
  accessFlags := 33
  interfaces := #[]
  cf := some (fileOf pool0 8 #[] #[{ accessFlags := 1, nameIndex := 5, descriptorIndex := 6, attributes := #[] }] 33 0 #[] #[])
  fields := #[]
  methods := #[k0m0]
  instanceTypes := #[]
  staticTypes := #[]
  resolved := Array.replicate 124 none
  statics := none }

def pool1 : Array CpInfo := pool [(2, .class_ 4), (1, u "java/lang/Object"), (0, u "<init>"), (0, u "()V"), (0, .methodref 8 9), (0, .class_ 10), (0, .nameAndType 11 12), (0, u "StreamSigScanner"), (0, u "stat"), (0, u "(I)I"), (0, .methodref 8 14), (0, .nameAndType 15 12), (0, u "byteAt"), (0, .methodref 8 17), (0, .nameAndType 18 12), (0, u "matchSig"), (0, .methodref 8 20), (0, .nameAndType 21 12), (0, u "matchEnd"), (0, .methodref 8 23), (0, .nameAndType 24 12), (0, u "segByte"), (0, .methodref 8 26), (0, .nameAndType 5 27), (0, u "(I)V"), (0, .methodref 8 29), (0, .nameAndType 30 12), (0, u "addSigByte"), (0, .methodref 8 32), (0, .nameAndType 33 34), (0, u "endSig"), (0, u "()I"), (0, .methodref 8 36), (0, .nameAndType 37 34), (0, u "compile"), (0, .methodref 8 39), (0, .nameAndType 40 12), (0, u "openSegment"), (0, .methodref 42 43), (0, .class_ 44), (0, .nameAndType 45 46), (0, u "StreamSigScannerL7"), (0, u "fill"), (0, u "(LStreamSigScanner;III)Z"), (0, .methodref 8 48), (0, .nameAndType 49 34), (0, u "closeSegment"), (0, .methodref 42 51), (0, .nameAndType 52 53), (0, u "same"), (0, u "(LStreamSigScanner;LStreamSigScanner;)Z"), (3, u "law"), (0, u "([I)Z")] 4

def k1m0 : Method := { name := "<init>", desc := "()V", sig := { parameters := [], returnType := none }, accessFlags := 1, code := none }
def k1c1 : Code := { maxStack := 3, maxLocals := 3, code := method_2_code, exceptionTable := #[], attributes := #[] }
def k1m1 : Method := { name := "same", desc := "(LStreamSigScanner;LStreamSigScanner;)Z", sig := { parameters := [(.object "StreamSigScanner"), (.object "StreamSigScanner")], returnType := some .boolean }, accessFlags := 10, code := some k1c1 }
def k1c2 : Code := { maxStack := 4, maxLocals := 6, code := method_3_code, exceptionTable := #[], attributes := #[] }
def k1m2 : Method := { name := "fill", desc := "(LStreamSigScanner;III)Z", sig := { parameters := [(.object "StreamSigScanner"), .int, .int, .int], returnType := some .boolean }, accessFlags := 10, code := some k1c2 }
def k1c3 : Code := { maxStack := 4, maxLocals := 18, code := code, exceptionTable := #[], attributes := #[] }
def k1m3 : Method := { name := "law", desc := "([I)Z", sig := { parameters := [(.array .int)], returnType := some .boolean }, accessFlags := 9, code := some k1c3 }
/-- StreamSigScannerL7 -/
def k1 : Class := { plain "StreamSigScannerL7" (some 0) with
  accessFlags := 33
  interfaces := #[]
  cf := some (fileOf pool1 42 #[] #[{ accessFlags := 1, nameIndex := 5, descriptorIndex := 6, attributes := #[] }, { accessFlags := 10, nameIndex := 52, descriptorIndex := 53, attributes := #[] }, { accessFlags := 10, nameIndex := 45, descriptorIndex := 46, attributes := #[] }, { accessFlags := 9, nameIndex := 57, descriptorIndex := 58, attributes := #[] }] 33 2 #[] #[])
  fields := #[]
  methods := #[k1m0, k1m1, k1m2, k1m3]
  instanceTypes := #[]
  staticTypes := #[]
  resolved := Array.replicate 63 none
  statics := none }

def pool2 : Array CpInfo := pool [(1, .methodref 2 3), (0, .class_ 4), (0, .nameAndType 5 6), (0, u "java/lang/Object"), (0, u "<init>"), (0, u "()V"), (0, .fieldref 8 9), (0, .class_ 10), (0, .nameAndType 11 12), (0, u "StreamSigScanner"), (0, u "sigBytes"), (0, u "[I"), (0, .fieldref 8 14), (0, .nameAndType 15 12), (0, u "sigStart"), (0, .fieldref 8 17), (0, .nameAndType 18 12), (0, u "sigLen"), (0, .fieldref 8 20), (0, .nameAndType 21 12), (0, u "delta"), (0, .fieldref 8 23), (0, .nameAndType 24 12), (0, u "fail"), (0, .fieldref 8 26), (0, .nameAndType 27 12), (0, u "outMask"), (0, .fieldref 8 29), (0, .nameAndType 30 12), (0, u "queue"), (0, .fieldref 8 32), (0, .nameAndType 33 34), (0, u "present"), (0, u "[Z"), (0, .fieldref 8 36), (0, .nameAndType 37 12), (0, u "stream"), (0, .fieldref 8 39), (0, .nameAndType 40 12), (0, u "segBuf"), (0, .fieldref 8 42), (0, .nameAndType 43 12), (0, u "matchSigs"), (0, .fieldref 8 45), (0, .nameAndType 46 12), (0, u "matchEnds"), (0, .fieldref 8 48), (0, .nameAndType 49 50), (0, u "window"), (0, u "I"), (0, .fieldref 8 52), (0, .nameAndType 53 54), (0, u "compiled"), (0, u "Z"), (0, .fieldref 8 56), (0, .nameAndType 57 50), (0, u "sigCount"), (0, .fieldref 8 59), (0, .nameAndType 60 50), (0, u "endedBytes"), (0, .fieldref 8 62), (0, .nameAndType 63 50), (0, u "pendLen"), (0, .fieldref 8 65), (0, .nameAndType 66 50), (0, u "nodeCount"), (0, .fieldref 8 68), (0, .nameAndType 69 50), (0, u "scanState"), (0, .fieldref 8 71), (0, .nameAndType 72 50), (0, u "delivered"), (0, .fieldref 8 74), (0, .nameAndType 75 50), (0, u "held"), (0, .fieldref 8 77), (0, .nameAndType 78 50), (0, u "conflicts"), (0, .fieldref 8 80), (0, .nameAndType 81 50), (0, u "duplicates"), (0, .fieldref 8 83), (0, .nameAndType 84 50), (0, u "dropped"), (0, .fieldref 8 86), (0, .nameAndType 87 50), (0, u "lastConflict"), (0, .fieldref 8 89), (0, .nameAndType 90 54), (0, u "segOpen"), (0, .fieldref 8 92), (0, .nameAndType 93 50), (0, u "segStart"), (0, .fieldref 8 95), (0, .nameAndType 96 50), (0, u "segLen"), (0, .fieldref 8 98), (0, .nameAndType 99 50), (0, u "matchTotal"), (0, .methodref 8 101), (0, .nameAndType 102 103), (0, u "isByte"), (0, u "(I)Z"), (0, .methodref 8 105), (0, .nameAndType 106 6), (0, u "buildTrie"), (0, .methodref 8 108), (0, .nameAndType 109 6), (0, u "buildAutomaton"), (0, .methodref 8 111), (0, .nameAndType 112 6), (0, u "clearAutomaton"), (0, .methodref 8 114), (0, .nameAndType 115 116), (0, u "insertSig"), (0, u "(I)V"), (0, .methodref 8 118), (0, .nameAndType 119 103), (0, u "isOffset"), (0, .methodref 8 121), (0, .nameAndType 122 123), (0, u "absorbByte"), (0, u "(III)V"), (0, .methodref 8 125), (0, .nameAndType 126 6), (0, u "advanceDelivered"), (0, .methodref 8 128), (0, .nameAndType 129 130), (0, u "feed"), (0, u "(II)V"), (0, .methodref 8 132), (0, .nameAndType 133 130), (0, u "recordMatch"), (0, .methodref 8 135), (0, .nameAndType 136 137), (0, u "flag"), (0, u "(Z)I"), (3, .methodref 8 142), (0, .nameAndType 143 103), (0, u "validRecord"), (0, u "OK"), (2, u "ERR_STATE"), (1, u "ERR_ARG"), (1, u "ERR_FULL"), (1, u "ERR_EMPTY"), (1, u "ERR_RANGE"), (1, u "MAX_SIGS"), (1, u "MAX_SIG_LEN"), (0, u "MAX_SIG_BYTES"), (1, u "STREAM_CAP"), (1, u "MAX_SEG_LEN"), (0, u "MATCH_CAP"), (0, u "MIN_WINDOW"), (1, u "MAX_WINDOW"), (0, u "STAT_DELIVERED"), (0, u "STAT_HELD"), (1, u "STAT_CONFLICTS"), (1, u "STAT_DUPLICATES"), (1, u "STAT_DROPPED"), (1, u "STAT_MATCHES"), (1, u "STAT_SIGS"), (1, u "STAT_SIG_BYTES"), (1, u "STAT_PENDING"), (0, u "STAT_COMPILED"), (1, u "STAT_SEG_OPEN"), (1, u "STAT_SEG_START"), (1, u "STAT_SEG_LEN"), (1, u "STAT_LAST_CONFLICT"), (1, u "STAT_WINDOW"), (1, u "MAX_NODES"), (1, u "ALPHABET"), (3, u "addSigByte"), (0, u "(I)I"), (0, u "endSig"), (0, u "()I"), (0, u "compile"), (0, u "openSegment"), (0, u "segByte"), (0, u "closeSegment"), (0, u "stat"), (0, u "byteAt"), (3, u "matchSig"), (0, u "matchEnd")] 2

def k2c0 : Code := { maxStack := 2, maxLocals := 3, code := prog_1_method_1_code, exceptionTable := #[], attributes := #[] }
def k2m0 : Method := { name := "<init>", desc := "(I)V", sig := { parameters := [.int], returnType := none }, accessFlags := 1, code := some k2c0 }
def k2c1 : Code := { maxStack := 3, maxLocals := 3, code := prog_1_method_2_code, exceptionTable := #[], attributes := #[] }
def k2m1 : Method := { name := "addSigByte", desc := "(I)I", sig := { parameters := [.int], returnType := some .int }, accessFlags := 1, code := some k2c1 }
def k2c2 : Code := { maxStack := 3, maxLocals := 2, code := prog_1_method_3_code, exceptionTable := #[], attributes := #[] }
def k2m2 : Method := { name := "endSig", desc := "()I", sig := { parameters := [], returnType := some .int }, accessFlags := 1, code := some k2c2 }
def k2c3 : Code := { maxStack := 2, maxLocals := 1, code := prog_1_method_4_code, exceptionTable := #[], attributes := #[] }
def k2m3 : Method := { name := "compile", desc := "()I", sig := { parameters := [], returnType := some .int }, accessFlags := 1, code := some k2c3 }
def k2c4 : Code := { maxStack := 2, maxLocals := 2, code := prog_1_method_5_code, exceptionTable := #[], attributes := #[] }
def k2m4 : Method := { name := "buildTrie", desc := "()V", sig := { parameters := [], returnType := none }, accessFlags := 2, code := some k2c4 }
def k2c5 : Code := { maxStack := 3, maxLocals := 2, code := prog_1_method_6_code, exceptionTable := #[], attributes := #[] }
def k2m5 : Method := { name := "clearAutomaton", desc := "()V", sig := { parameters := [], returnType := none }, accessFlags := 2, code := some k2c5 }
def k2c6 : Code := { maxStack := 5, maxLocals := 8, code := prog_1_method_7_code, exceptionTable := #[], attributes := #[] }
def k2m6 : Method := { name := "insertSig", desc := "(I)V", sig := { parameters := [.int], returnType := none }, accessFlags := 2, code := some k2c6 }
def k2c7 : Code := { maxStack := 5, maxLocals := 9, code := prog_1_method_8_code, exceptionTable := #[], attributes := #[] }
def k2m7 : Method := { name := "buildAutomaton", desc := "()V", sig := { parameters := [], returnType := none }, accessFlags := 2, code := some k2c7 }
def k2c8 : Code := { maxStack := 2, maxLocals := 2, code := prog_1_method_9_code, exceptionTable := #[], attributes := #[] }
def k2m8 : Method := { name := "openSegment", desc := "(I)I", sig := { parameters := [.int], returnType := some .int }, accessFlags := 1, code := some k2c8 }
def k2c9 : Code := { maxStack := 3, maxLocals := 2, code := prog_1_method_10_code, exceptionTable := #[], attributes := #[] }
def k2m9 : Method := { name := "segByte", desc := "(I)I", sig := { parameters := [.int], returnType := some .int }, accessFlags := 1, code := some k2c9 }
def k2c10 : Code := { maxStack := 4, maxLocals := 3, code := prog_1_method_11_code, exceptionTable := #[], attributes := #[] }
def k2m10 : Method := { name := "closeSegment", desc := "()I", sig := { parameters := [], returnType := some .int }, accessFlags := 1, code := some k2c10 }
def k2c11 : Code := { maxStack := 3, maxLocals := 4, code := prog_1_method_12_code, exceptionTable := #[], attributes := #[] }
def k2m11 : Method := { name := "absorbByte", desc := "(III)V", sig := { parameters := [.int, .int, .int], returnType := none }, accessFlags := 2, code := some k2c11 }
def k2c12 : Code := { maxStack := 3, maxLocals := 4, code := prog_1_method_13_code, exceptionTable := #[], attributes := #[] }
def k2m12 : Method := { name := "advanceDelivered", desc := "()V", sig := { parameters := [], returnType := none }, accessFlags := 2, code := some k2c12 }
def k2c13 : Code := { maxStack := 3, maxLocals := 7, code := prog_1_method_14_code, exceptionTable := #[], attributes := #[] }
def k2m13 : Method := { name := "feed", desc := "(II)V", sig := { parameters := [.int, .int], returnType := none }, accessFlags := 2, code := some k2c13 }
def k2c14 : Code := { maxStack := 3, maxLocals := 3, code := prog_1_method_15_code, exceptionTable := #[], attributes := #[] }
def k2m14 : Method := { name := "recordMatch", desc := "(II)V", sig := { parameters := [.int, .int], returnType := none }, accessFlags := 2, code := some k2c14 }
def k2c15 : Code := { maxStack := 2, maxLocals := 2, code := prog_1_method_16_code, exceptionTable := #[], attributes := #[] }
def k2m15 : Method := { name := "stat", desc := "(I)I", sig := { parameters := [.int], returnType := some .int }, accessFlags := 1, code := some k2c15 }
def k2c16 : Code := { maxStack := 2, maxLocals := 2, code := prog_1_method_17_code, exceptionTable := #[], attributes := #[] }
def k2m16 : Method := { name := "byteAt", desc := "(I)I", sig := { parameters := [.int], returnType := some .int }, accessFlags := 1, code := some k2c16 }
def k2c17 : Code := { maxStack := 2, maxLocals := 2, code := prog_1_method_20_code, exceptionTable := #[], attributes := #[] }
def k2m17 : Method := { name := "matchSig", desc := "(I)I", sig := { parameters := [.int], returnType := some .int }, accessFlags := 1, code := some k2c17 }
def k2c18 : Code := { maxStack := 2, maxLocals := 2, code := prog_1_method_21_code, exceptionTable := #[], attributes := #[] }
def k2m18 : Method := { name := "matchEnd", desc := "(I)I", sig := { parameters := [.int], returnType := some .int }, accessFlags := 1, code := some k2c18 }
def k2c19 : Code := { maxStack := 2, maxLocals := 2, code := prog_1_method_22_code, exceptionTable := #[], attributes := #[] }
def k2m19 : Method := { name := "isByte", desc := "(I)Z", sig := { parameters := [.int], returnType := some .boolean }, accessFlags := 2, code := some k2c19 }
def k2c20 : Code := { maxStack := 2, maxLocals := 2, code := prog_1_method_23_code, exceptionTable := #[], attributes := #[] }
def k2m20 : Method := { name := "isOffset", desc := "(I)Z", sig := { parameters := [.int], returnType := some .boolean }, accessFlags := 2, code := some k2c20 }
def k2c21 : Code := { maxStack := 2, maxLocals := 3, code := prog_1_method_25_code, exceptionTable := #[], attributes := #[] }
def k2m21 : Method := { name := "validRecord", desc := "(I)Z", sig := { parameters := [.int], returnType := some .boolean }, accessFlags := 2, code := some k2c21 }
def k2c22 : Code := { maxStack := 1, maxLocals := 2, code := prog_1_method_26_code, exceptionTable := #[], attributes := #[] }
def k2m22 : Method := { name := "flag", desc := "(Z)I", sig := { parameters := [.boolean], returnType := some .int }, accessFlags := 2, code := some k2c22 }
/-- StreamSigScanner -/
def k2 : Class := { plain "StreamSigScanner" (some 0) with
  accessFlags := 49
  interfaces := #[]
  cf := some (fileOf pool2 8 #[] #[{ accessFlags := 1, nameIndex := 5, descriptorIndex := 116, attributes := #[] }, { accessFlags := 1, nameIndex := 203, descriptorIndex := 204, attributes := #[] }, { accessFlags := 1, nameIndex := 205, descriptorIndex := 206, attributes := #[] }, { accessFlags := 1, nameIndex := 207, descriptorIndex := 206, attributes := #[] }, { accessFlags := 2, nameIndex := 106, descriptorIndex := 6, attributes := #[] }, { accessFlags := 2, nameIndex := 112, descriptorIndex := 6, attributes := #[] }, { accessFlags := 2, nameIndex := 115, descriptorIndex := 116, attributes := #[] }, { accessFlags := 2, nameIndex := 109, descriptorIndex := 6, attributes := #[] }, { accessFlags := 1, nameIndex := 208, descriptorIndex := 204, attributes := #[] }, { accessFlags := 1, nameIndex := 209, descriptorIndex := 204, attributes := #[] }, { accessFlags := 1, nameIndex := 210, descriptorIndex := 206, attributes := #[] }, { accessFlags := 2, nameIndex := 122, descriptorIndex := 123, attributes := #[] }, { accessFlags := 2, nameIndex := 126, descriptorIndex := 6, attributes := #[] }, { accessFlags := 2, nameIndex := 129, descriptorIndex := 130, attributes := #[] }, { accessFlags := 2, nameIndex := 133, descriptorIndex := 130, attributes := #[] }, { accessFlags := 1, nameIndex := 211, descriptorIndex := 204, attributes := #[] }, { accessFlags := 1, nameIndex := 212, descriptorIndex := 204, attributes := #[] }, { accessFlags := 1, nameIndex := 216, descriptorIndex := 204, attributes := #[] }, { accessFlags := 1, nameIndex := 217, descriptorIndex := 204, attributes := #[] }, { accessFlags := 2, nameIndex := 102, descriptorIndex := 103, attributes := #[] }, { accessFlags := 2, nameIndex := 119, descriptorIndex := 103, attributes := #[] }, { accessFlags := 2, nameIndex := 143, descriptorIndex := 103, attributes := #[] }, { accessFlags := 2, nameIndex := 136, descriptorIndex := 137, attributes := #[] }] 49 2 #[] #[{ accessFlags := 25, nameIndex := 144, descriptorIndex := 50, attributes := #[] }, { accessFlags := 25, nameIndex := 147, descriptorIndex := 50, attributes := #[] }, { accessFlags := 25, nameIndex := 149, descriptorIndex := 50, attributes := #[] }, { accessFlags := 25, nameIndex := 151, descriptorIndex := 50, attributes := #[] }, { accessFlags := 25, nameIndex := 153, descriptorIndex := 50, attributes := #[] }, { accessFlags := 25, nameIndex := 155, descriptorIndex := 50, attributes := #[] }, { accessFlags := 25, nameIndex := 157, descriptorIndex := 50, attributes := #[] }, { accessFlags := 25, nameIndex := 159, descriptorIndex := 50, attributes := #[] }, { accessFlags := 25, nameIndex := 160, descriptorIndex := 50, attributes := #[] }, { accessFlags := 25, nameIndex := 162, descriptorIndex := 50, attributes := #[] }, { accessFlags := 25, nameIndex := 164, descriptorIndex := 50, attributes := #[] }, { accessFlags := 25, nameIndex := 165, descriptorIndex := 50, attributes := #[] }, { accessFlags := 25, nameIndex := 166, descriptorIndex := 50, attributes := #[] }, { accessFlags := 25, nameIndex := 168, descriptorIndex := 50, attributes := #[] }, { accessFlags := 25, nameIndex := 169, descriptorIndex := 50, attributes := #[] }, { accessFlags := 25, nameIndex := 170, descriptorIndex := 50, attributes := #[] }, { accessFlags := 25, nameIndex := 172, descriptorIndex := 50, attributes := #[] }, { accessFlags := 25, nameIndex := 174, descriptorIndex := 50, attributes := #[] }, { accessFlags := 25, nameIndex := 176, descriptorIndex := 50, attributes := #[] }, { accessFlags := 25, nameIndex := 178, descriptorIndex := 50, attributes := #[] }, { accessFlags := 25, nameIndex := 180, descriptorIndex := 50, attributes := #[] }, { accessFlags := 25, nameIndex := 182, descriptorIndex := 50, attributes := #[] }, { accessFlags := 25, nameIndex := 184, descriptorIndex := 50, attributes := #[] }, { accessFlags := 25, nameIndex := 185, descriptorIndex := 50, attributes := #[] }, { accessFlags := 25, nameIndex := 187, descriptorIndex := 50, attributes := #[] }, { accessFlags := 25, nameIndex := 189, descriptorIndex := 50, attributes := #[] }, { accessFlags := 25, nameIndex := 191, descriptorIndex := 50, attributes := #[] }, { accessFlags := 25, nameIndex := 193, descriptorIndex := 50, attributes := #[] }, { accessFlags := 25, nameIndex := 195, descriptorIndex := 50, attributes := #[] }, { accessFlags := 26, nameIndex := 197, descriptorIndex := 50, attributes := #[] }, { accessFlags := 26, nameIndex := 199, descriptorIndex := 50, attributes := #[] }, { accessFlags := 2, nameIndex := 49, descriptorIndex := 50, attributes := #[] }, { accessFlags := 2, nameIndex := 53, descriptorIndex := 54, attributes := #[] }, { accessFlags := 2, nameIndex := 57, descriptorIndex := 50, attributes := #[] }, { accessFlags := 2, nameIndex := 60, descriptorIndex := 50, attributes := #[] }, { accessFlags := 2, nameIndex := 63, descriptorIndex := 50, attributes := #[] }, { accessFlags := 2, nameIndex := 11, descriptorIndex := 12, attributes := #[] }, { accessFlags := 2, nameIndex := 15, descriptorIndex := 12, attributes := #[] }, { accessFlags := 2, nameIndex := 18, descriptorIndex := 12, attributes := #[] }, { accessFlags := 2, nameIndex := 21, descriptorIndex := 12, attributes := #[] }, { accessFlags := 2, nameIndex := 24, descriptorIndex := 12, attributes := #[] }, { accessFlags := 2, nameIndex := 27, descriptorIndex := 12, attributes := #[] }, { accessFlags := 2, nameIndex := 30, descriptorIndex := 12, attributes := #[] }, { accessFlags := 2, nameIndex := 66, descriptorIndex := 50, attributes := #[] }, { accessFlags := 2, nameIndex := 69, descriptorIndex := 50, attributes := #[] }, { accessFlags := 2, nameIndex := 33, descriptorIndex := 34, attributes := #[] }, { accessFlags := 2, nameIndex := 37, descriptorIndex := 12, attributes := #[] }, { accessFlags := 2, nameIndex := 72, descriptorIndex := 50, attributes := #[] }, { accessFlags := 2, nameIndex := 75, descriptorIndex := 50, attributes := #[] }, { accessFlags := 2, nameIndex := 78, descriptorIndex := 50, attributes := #[] }, { accessFlags := 2, nameIndex := 81, descriptorIndex := 50, attributes := #[] }, { accessFlags := 2, nameIndex := 84, descriptorIndex := 50, attributes := #[] }, { accessFlags := 2, nameIndex := 87, descriptorIndex := 50, attributes := #[] }, { accessFlags := 2, nameIndex := 90, descriptorIndex := 54, attributes := #[] }, { accessFlags := 2, nameIndex := 93, descriptorIndex := 50, attributes := #[] }, { accessFlags := 2, nameIndex := 96, descriptorIndex := 50, attributes := #[] }, { accessFlags := 2, nameIndex := 40, descriptorIndex := 12, attributes := #[] }, { accessFlags := 2, nameIndex := 99, descriptorIndex := 50, attributes := #[] }, { accessFlags := 2, nameIndex := 43, descriptorIndex := 12, attributes := #[] }, { accessFlags := 2, nameIndex := 46, descriptorIndex := 12, attributes := #[] }])
  fields := #[{ name := "OK", type := .int, accessFlags := 25, slot := 0, constantValue := 0 }, { name := "ERR_STATE", type := .int, accessFlags := 25, slot := 1, constantValue := 0 }, { name := "ERR_ARG", type := .int, accessFlags := 25, slot := 2, constantValue := 0 }, { name := "ERR_FULL", type := .int, accessFlags := 25, slot := 3, constantValue := 0 }, { name := "ERR_EMPTY", type := .int, accessFlags := 25, slot := 4, constantValue := 0 }, { name := "ERR_RANGE", type := .int, accessFlags := 25, slot := 5, constantValue := 0 }, { name := "MAX_SIGS", type := .int, accessFlags := 25, slot := 6, constantValue := 0 }, { name := "MAX_SIG_LEN", type := .int, accessFlags := 25, slot := 7, constantValue := 0 }, { name := "MAX_SIG_BYTES", type := .int, accessFlags := 25, slot := 8, constantValue := 0 }, { name := "STREAM_CAP", type := .int, accessFlags := 25, slot := 9, constantValue := 0 }, { name := "MAX_SEG_LEN", type := .int, accessFlags := 25, slot := 10, constantValue := 0 }, { name := "MATCH_CAP", type := .int, accessFlags := 25, slot := 11, constantValue := 0 }, { name := "MIN_WINDOW", type := .int, accessFlags := 25, slot := 12, constantValue := 0 }, { name := "MAX_WINDOW", type := .int, accessFlags := 25, slot := 13, constantValue := 0 }, { name := "STAT_DELIVERED", type := .int, accessFlags := 25, slot := 14, constantValue := 0 }, { name := "STAT_HELD", type := .int, accessFlags := 25, slot := 15, constantValue := 0 }, { name := "STAT_CONFLICTS", type := .int, accessFlags := 25, slot := 16, constantValue := 0 }, { name := "STAT_DUPLICATES", type := .int, accessFlags := 25, slot := 17, constantValue := 0 }, { name := "STAT_DROPPED", type := .int, accessFlags := 25, slot := 18, constantValue := 0 }, { name := "STAT_MATCHES", type := .int, accessFlags := 25, slot := 19, constantValue := 0 }, { name := "STAT_SIGS", type := .int, accessFlags := 25, slot := 20, constantValue := 0 }, { name := "STAT_SIG_BYTES", type := .int, accessFlags := 25, slot := 21, constantValue := 0 }, { name := "STAT_PENDING", type := .int, accessFlags := 25, slot := 22, constantValue := 0 }, { name := "STAT_COMPILED", type := .int, accessFlags := 25, slot := 23, constantValue := 0 }, { name := "STAT_SEG_OPEN", type := .int, accessFlags := 25, slot := 24, constantValue := 0 }, { name := "STAT_SEG_START", type := .int, accessFlags := 25, slot := 25, constantValue := 0 }, { name := "STAT_SEG_LEN", type := .int, accessFlags := 25, slot := 26, constantValue := 0 }, { name := "STAT_LAST_CONFLICT", type := .int, accessFlags := 25, slot := 27, constantValue := 0 }, { name := "STAT_WINDOW", type := .int, accessFlags := 25, slot := 28, constantValue := 0 }, { name := "MAX_NODES", type := .int, accessFlags := 26, slot := 29, constantValue := 0 }, { name := "ALPHABET", type := .int, accessFlags := 26, slot := 30, constantValue := 0 }, { name := "window", type := .int, accessFlags := 2, slot := 0, constantValue := 0 }, { name := "compiled", type := .boolean, accessFlags := 2, slot := 1, constantValue := 0 }, { name := "sigCount", type := .int, accessFlags := 2, slot := 2, constantValue := 0 }, { name := "endedBytes", type := .int, accessFlags := 2, slot := 3, constantValue := 0 }, { name := "pendLen", type := .int, accessFlags := 2, slot := 4, constantValue := 0 }, { name := "sigBytes", type := (.array .int), accessFlags := 2, slot := 5, constantValue := 0 }, { name := "sigStart", type := (.array .int), accessFlags := 2, slot := 6, constantValue := 0 }, { name := "sigLen", type := (.array .int), accessFlags := 2, slot := 7, constantValue := 0 }, { name := "delta", type := (.array .int), accessFlags := 2, slot := 8, constantValue := 0 }, { name := "fail", type := (.array .int), accessFlags := 2, slot := 9, constantValue := 0 }, { name := "outMask", type := (.array .int), accessFlags := 2, slot := 10, constantValue := 0 }, { name := "queue", type := (.array .int), accessFlags := 2, slot := 11, constantValue := 0 }, { name := "nodeCount", type := .int, accessFlags := 2, slot := 12, constantValue := 0 }, { name := "scanState", type := .int, accessFlags := 2, slot := 13, constantValue := 0 }, { name := "present", type := (.array .boolean), accessFlags := 2, slot := 14, constantValue := 0 }, { name := "stream", type := (.array .int), accessFlags := 2, slot := 15, constantValue := 0 }, { name := "delivered", type := .int, accessFlags := 2, slot := 16, constantValue := 0 }, { name := "held", type := .int, accessFlags := 2, slot := 17, constantValue := 0 }, { name := "conflicts", type := .int, accessFlags := 2, slot := 18, constantValue := 0 }, { name := "duplicates", type := .int, accessFlags := 2, slot := 19, constantValue := 0 }, { name := "dropped", type := .int, accessFlags := 2, slot := 20, constantValue := 0 }, { name := "lastConflict", type := .int, accessFlags := 2, slot := 21, constantValue := 0 }, { name := "segOpen", type := .boolean, accessFlags := 2, slot := 22, constantValue := 0 }, { name := "segStart", type := .int, accessFlags := 2, slot := 23, constantValue := 0 }, { name := "segLen", type := .int, accessFlags := 2, slot := 24, constantValue := 0 }, { name := "segBuf", type := (.array .int), accessFlags := 2, slot := 25, constantValue := 0 }, { name := "matchTotal", type := .int, accessFlags := 2, slot := 26, constantValue := 0 }, { name := "matchSigs", type := (.array .int), accessFlags := 2, slot := 27, constantValue := 0 }, { name := "matchEnds", type := (.array .int), accessFlags := 2, slot := 28, constantValue := 0 }]
  methods := #[k2m0, k2m1, k2m2, k2m3, k2m4, k2m5, k2m6, k2m7, k2m8, k2m9, k2m10, k2m11, k2m12, k2m13, k2m14, k2m15, k2m16, k2m17, k2m18, k2m19, k2m20, k2m21, k2m22]
  instanceTypes := #[.int, .boolean, .int, .int, .int, (.array .int), (.array .int), (.array .int), (.array .int), (.array .int), (.array .int), (.array .int), .int, .int, (.array .boolean), (.array .int), .int, .int, .int, .int, .int, .int, .boolean, .int, .int, (.array .int), .int, (.array .int), (.array .int)]
  staticTypes := #[.int, .int, .int, .int, .int, .int, .int, .int, .int, .int, .int, .int, .int, .int, .int, .int, .int, .int, .int, .int, .int, .int, .int, .int, .int, .int, .int, .int, .int, .int, .int]
  resolved := Array.replicate 220 none
  statics := none }

def pool3 : Array CpInfo := pool [(1, u "java/lang/Cloneable"), (0, .class_ 1), (0, u "java/lang/Object"), (0, .class_ 3)] 3

/-- java/lang/Cloneable -/
def k3 : Class := { plain "java/lang/Cloneable" (some 0) with
  accessFlags := 1537
  interfaces := #[]
  cf := some (fileOf pool3 2 #[] #[] 1537 4 #[] #[])
  fields := #[]
  methods := #[]
  instanceTypes := #[]
  staticTypes := #[]
  resolved := Array.replicate 8 none
  statics := none }

def pool4 : Array CpInfo := pool [(1, u "java/io/Serializable"), (0, .class_ 1), (0, u "java/lang/Object"), (0, .class_ 3)] 3

/-- java/io/Serializable -/
def k4 : Class := { plain "java/io/Serializable" (some 0) with
  accessFlags := 1537
  interfaces := #[]
  cf := some (fileOf pool4 2 #[] #[] 1537 4 #[] #[])
  fields := #[]
  methods := #[]
  instanceTypes := #[]
  staticTypes := #[]
  resolved := Array.replicate 8 none
  statics := none }

/-- the primitive boolean -/
def k5 : Class := { plain "boolean" none with kind := .primitive 'Z', accessFlags := 0x411 }
/-- [Z -/
def k6 : Class := { plain "[Z" (some 0) with kind := .array 5 .boolean, interfaces := #[3, 4], accessFlags := 1041 }

/-- the primitive byte -/
def k7 : Class := { plain "byte" none with kind := .primitive 'B', accessFlags := 0x411 }
/-- [B -/
def k8 : Class := { plain "[B" (some 0) with kind := .array 7 .byte, interfaces := #[3, 4], accessFlags := 1041 }

/-- the primitive int -/
def k9 : Class := { plain "int" none with kind := .primitive 'I', accessFlags := 0x411 }
/-- [I -/
def k10 : Class := { plain "[I" (some 0) with kind := .array 9 .int, interfaces := #[3, 4], accessFlags := 1041 }

def heap : Heap := #[{ cls := 10, slots := #[.int 3, .int 1, .int 2, .int 3], vm := .none }]
def classes : Array Class := #[k0, k1, k2, k3, k4, k5, k6, k7, k8, k9, k10]
def interned : List (Array UInt16 × Addr) := []
def slotsUsed : Nat := 4
def theMethod : MethodId := ⟨1, 3⟩
def args0 : Array Value := #[.ref 0]
def aboutOver (below : List Frame) : State where
  vm := { classes := classes, interned := interned.toArray }
  heap := heap
  slotsUsed := slotsUsed
  threads := #[{ frames := .invoking theMethod args0 :: below }]
def below0 : List Frame := [.native { method := ⟨0, 0⟩, args := #[] }]
def about1 : State := aboutOver below0
def p0 : Program := .bare "" "" ""
def e0 : Env := launch0.env 0 0 0
theorem w_frames : about1.frames = Frame.invoking theMethod args0 :: below0 := rfl
set_option maxRecDepth 65536 in
theorem w_args : argsFit about1.vm theMethod args0 = true := by decide +kernel
set_option maxRecDepth 65536 in
theorem w_heap : heapFits about1 = true := by decide +kernel
set_option maxRecDepth 65536 in
theorem w_runnable : about1.curStatus? = some .runnable := by decide +kernel
set_option maxRecDepth 65536 in
theorem w_alone : about1.alone = true := by decide +kernel
set_option maxRecDepth 65536 in
theorem w_named : about1.methodNamed? x = some theMethod := by decide +kernel
set_option maxRecDepth 65536 in
theorem w_hears : about1.hears theMethod below0 = true := by decide +kernel
set_option maxRecDepth 65536 in
theorem w_ripe : about1.ripe theMethod args0 below0 = true := by decide +kernel
theorem w_running : about1.status = .running := rfl
set_option maxRecDepth 65536 in
theorem w_room : about1.hasRoom e0.platform room_1 = true :=
  launch0.hasRoom_least _ room_1 (by decide +kernel) (by decide +kernel) (by decide +kernel) (by decide +kernel) (by decide +kernel) (by decide +kernel)
theorem allAtoms_all (ts : List Jvm.Cond) (a : Array Jvm.Value) (st : Jvm.State) : (allAtoms ts).before a st = ts.all (fun c => c.before a st) := by
  induction ts with
  | nil => rfl
  | cons c t ih =>
    show (Jvm.Cond.and c (allAtoms t)).before a st = _
    rw [Jvm.Cond.before_and, ih, List.all_cons]
def words1 : List Jvm.Cond := Jvm.Cond.code x code maxLocals ret :: tables_1
/-- a 'code' word, met by the world's own term for the bytes: nothing is compared byte by byte -/
theorem code_word {y : MethodName} {bytes : ByteArray} {mx : Nat} {rt : Option FieldType} {a : Array Value} {s : State} {m : MethodId} {meth : Method} {c : Code} (h1 : s.methodNamed? y = some m) (h2 : s.vm.method? m = some meth) (h3 : meth.code = some c) (h4 : c.code = bytes)
    (h5 : (c.maxLocals == mx && c.exceptionTable.isEmpty && decide (c.maxStack ≤ mostOperands) && decide (meth.sig.returnType = rt) && !meth.locks && decide (parseMethodDescriptor y.desc = some meth.sig)) = true) : (Jvm.Cond.code y bytes mx rt).before a s = true := by
  simp only [Bool.and_eq_true, beq_iff_eq, Bool.not_eq_true', decide_eq_true_eq] at h5
  obtain ⟨⟨⟨⟨⟨g1, g2⟩, g3⟩, g4⟩, g5⟩, g6⟩ := h5
  simp [Cond.before, Cond.holds, Cond.value, h1, h2, h3, h4, g1, g2, g3, g4, g5, g6]
def isCode : Jvm.Cond → Bool
  | .code _ _ _ _ => true
  | _ => false
theorem all_split {L : List Jvm.Cond} {P : Jvm.Cond → Bool} (h1 : L.all (fun c => isCode c || P c) = true) (h2 : ∀ c ∈ L.filter isCode, P c = true) : L.all P = true := by
  refine List.all_eq_true.mpr fun c hc => ?_
  have h := List.all_eq_true.mp h1 c hc
  rcases Bool.eq_false_or_eq_true (isCode c) with hi | hi
  · exact h2 c (List.mem_filter.mpr ⟨hc, hi⟩)
  · simpa [hi] using h
set_option maxRecDepth 65536 in
theorem w_c0 : (Jvm.Cond.code x code maxLocals ret).before args0 about1 = true := code_word (m := ⟨1, 3⟩) (meth := k1m3) (c := k1c3) (by decide +kernel) rfl rfl rfl (by decide +kernel)
set_option maxRecDepth 65536 in
theorem w_c1 : (Jvm.Cond.code ({ cls := "StreamSigScanner", name := "<init>", desc := "(I)V" } : Jvm.MethodName) prog_1_method_1_code (3 : Nat) (Option.none : Option Jvm.ClassFile.FieldType)).before args0 about1 = true := code_word (m := ⟨2, 0⟩) (meth := k2m0) (c := k2c0) (by decide +kernel) rfl rfl rfl (by decide +kernel)
set_option maxRecDepth 65536 in
theorem w_c2 : (Jvm.Cond.code ({ cls := "java/lang/Object", name := "<init>", desc := "()V" } : Jvm.MethodName) object_method_1_code (1 : Nat) (Option.none : Option Jvm.ClassFile.FieldType)).before args0 about1 = true := code_word (m := ⟨0, 0⟩) (meth := k0m0) (c := k0c0) (by decide +kernel) rfl rfl rfl (by decide +kernel)
set_option maxRecDepth 65536 in
theorem w_c3 : (Jvm.Cond.code ({ cls := "StreamSigScanner", name := "stat", desc := "(I)I" } : Jvm.MethodName) prog_1_method_16_code (2 : Nat) (Option.some Jvm.ClassFile.FieldType.int)).before args0 about1 = true := code_word (m := ⟨2, 15⟩) (meth := k2m15) (c := k2c15) (by decide +kernel) rfl rfl rfl (by decide +kernel)
set_option maxRecDepth 65536 in
theorem w_c4 : (Jvm.Cond.code ({ cls := "StreamSigScanner", name := "openSegment", desc := "(I)I" } : Jvm.MethodName) prog_1_method_9_code (2 : Nat) (Option.some Jvm.ClassFile.FieldType.int)).before args0 about1 = true := code_word (m := ⟨2, 8⟩) (meth := k2m8) (c := k2c8) (by decide +kernel) rfl rfl rfl (by decide +kernel)
set_option maxRecDepth 65536 in
theorem w_c5 : (Jvm.Cond.code ({ cls := "StreamSigScannerL7", name := "same", desc := "(LStreamSigScanner;LStreamSigScanner;)Z" } : Jvm.MethodName) method_2_code (3 : Nat) (Option.some Jvm.ClassFile.FieldType.boolean)).before args0 about1 = true := code_word (m := ⟨1, 1⟩) (meth := k1m1) (c := k1c1) (by decide +kernel) rfl rfl rfl (by decide +kernel)
set_option maxRecDepth 65536 in
theorem w_c6 : (Jvm.Cond.code ({ cls := "StreamSigScanner", name := "flag", desc := "(Z)I" } : Jvm.MethodName) prog_1_method_26_code (2 : Nat) (Option.some Jvm.ClassFile.FieldType.int)).before args0 about1 = true := code_word (m := ⟨2, 22⟩) (meth := k2m22) (c := k2c22) (by decide +kernel) rfl rfl rfl (by decide +kernel)
set_option maxRecDepth 65536 in
theorem w_c7 : (Jvm.Cond.code ({ cls := "StreamSigScanner", name := "byteAt", desc := "(I)I" } : Jvm.MethodName) prog_1_method_17_code (2 : Nat) (Option.some Jvm.ClassFile.FieldType.int)).before args0 about1 = true := code_word (m := ⟨2, 16⟩) (meth := k2m16) (c := k2c16) (by decide +kernel) rfl rfl rfl (by decide +kernel)
set_option maxRecDepth 65536 in
theorem w_c8 : (Jvm.Cond.code ({ cls := "StreamSigScanner", name := "isOffset", desc := "(I)Z" } : Jvm.MethodName) prog_1_method_23_code (2 : Nat) (Option.some Jvm.ClassFile.FieldType.boolean)).before args0 about1 = true := code_word (m := ⟨2, 20⟩) (meth := k2m20) (c := k2c20) (by decide +kernel) rfl rfl rfl (by decide +kernel)
set_option maxRecDepth 65536 in
theorem w_c9 : (Jvm.Cond.code ({ cls := "StreamSigScanner", name := "matchSig", desc := "(I)I" } : Jvm.MethodName) prog_1_method_20_code (2 : Nat) (Option.some Jvm.ClassFile.FieldType.int)).before args0 about1 = true := code_word (m := ⟨2, 17⟩) (meth := k2m17) (c := k2c17) (by decide +kernel) rfl rfl rfl (by decide +kernel)
set_option maxRecDepth 65536 in
theorem w_c10 : (Jvm.Cond.code ({ cls := "StreamSigScanner", name := "validRecord", desc := "(I)Z" } : Jvm.MethodName) prog_1_method_25_code (3 : Nat) (Option.some Jvm.ClassFile.FieldType.boolean)).before args0 about1 = true := code_word (m := ⟨2, 21⟩) (meth := k2m21) (c := k2c21) (by decide +kernel) rfl rfl rfl (by decide +kernel)
set_option maxRecDepth 65536 in
theorem w_c11 : (Jvm.Cond.code ({ cls := "StreamSigScanner", name := "matchEnd", desc := "(I)I" } : Jvm.MethodName) prog_1_method_21_code (2 : Nat) (Option.some Jvm.ClassFile.FieldType.int)).before args0 about1 = true := code_word (m := ⟨2, 18⟩) (meth := k2m18) (c := k2c18) (by decide +kernel) rfl rfl rfl (by decide +kernel)
set_option maxRecDepth 65536 in
theorem w_c12 : (Jvm.Cond.code ({ cls := "StreamSigScanner", name := "endSig", desc := "()I" } : Jvm.MethodName) prog_1_method_3_code (2 : Nat) (Option.some Jvm.ClassFile.FieldType.int)).before args0 about1 = true := code_word (m := ⟨2, 2⟩) (meth := k2m2) (c := k2c2) (by decide +kernel) rfl rfl rfl (by decide +kernel)
set_option maxRecDepth 65536 in
theorem w_c13 : (Jvm.Cond.code ({ cls := "StreamSigScanner", name := "addSigByte", desc := "(I)I" } : Jvm.MethodName) prog_1_method_2_code (3 : Nat) (Option.some Jvm.ClassFile.FieldType.int)).before args0 about1 = true := code_word (m := ⟨2, 1⟩) (meth := k2m1) (c := k2c1) (by decide +kernel) rfl rfl rfl (by decide +kernel)
set_option maxRecDepth 65536 in
theorem w_c14 : (Jvm.Cond.code ({ cls := "StreamSigScanner", name := "isByte", desc := "(I)Z" } : Jvm.MethodName) prog_1_method_22_code (2 : Nat) (Option.some Jvm.ClassFile.FieldType.boolean)).before args0 about1 = true := code_word (m := ⟨2, 19⟩) (meth := k2m19) (c := k2c19) (by decide +kernel) rfl rfl rfl (by decide +kernel)
set_option maxRecDepth 65536 in
theorem w_c15 : (Jvm.Cond.code ({ cls := "StreamSigScanner", name := "compile", desc := "()I" } : Jvm.MethodName) prog_1_method_4_code (1 : Nat) (Option.some Jvm.ClassFile.FieldType.int)).before args0 about1 = true := code_word (m := ⟨2, 3⟩) (meth := k2m3) (c := k2c3) (by decide +kernel) rfl rfl rfl (by decide +kernel)
set_option maxRecDepth 65536 in
theorem w_c16 : (Jvm.Cond.code ({ cls := "StreamSigScanner", name := "buildTrie", desc := "()V" } : Jvm.MethodName) prog_1_method_5_code (2 : Nat) (Option.none : Option Jvm.ClassFile.FieldType)).before args0 about1 = true := code_word (m := ⟨2, 4⟩) (meth := k2m4) (c := k2c4) (by decide +kernel) rfl rfl rfl (by decide +kernel)
set_option maxRecDepth 65536 in
theorem w_c17 : (Jvm.Cond.code ({ cls := "StreamSigScanner", name := "clearAutomaton", desc := "()V" } : Jvm.MethodName) prog_1_method_6_code (2 : Nat) (Option.none : Option Jvm.ClassFile.FieldType)).before args0 about1 = true := code_word (m := ⟨2, 5⟩) (meth := k2m5) (c := k2c5) (by decide +kernel) rfl rfl rfl (by decide +kernel)
set_option maxRecDepth 65536 in
theorem w_c18 : (Jvm.Cond.code ({ cls := "StreamSigScanner", name := "insertSig", desc := "(I)V" } : Jvm.MethodName) prog_1_method_7_code (8 : Nat) (Option.none : Option Jvm.ClassFile.FieldType)).before args0 about1 = true := code_word (m := ⟨2, 6⟩) (meth := k2m6) (c := k2c6) (by decide +kernel) rfl rfl rfl (by decide +kernel)
set_option maxRecDepth 65536 in
theorem w_c19 : (Jvm.Cond.code ({ cls := "StreamSigScanner", name := "buildAutomaton", desc := "()V" } : Jvm.MethodName) prog_1_method_8_code (9 : Nat) (Option.none : Option Jvm.ClassFile.FieldType)).before args0 about1 = true := code_word (m := ⟨2, 7⟩) (meth := k2m7) (c := k2c7) (by decide +kernel) rfl rfl rfl (by decide +kernel)
set_option maxRecDepth 65536 in
theorem w_c20 : (Jvm.Cond.code ({ cls := "StreamSigScannerL7", name := "fill", desc := "(LStreamSigScanner;III)Z" } : Jvm.MethodName) method_3_code (6 : Nat) (Option.some Jvm.ClassFile.FieldType.boolean)).before args0 about1 = true := code_word (m := ⟨1, 2⟩) (meth := k1m2) (c := k1c2) (by decide +kernel) rfl rfl rfl (by decide +kernel)
set_option maxRecDepth 65536 in
theorem w_c21 : (Jvm.Cond.code ({ cls := "StreamSigScanner", name := "segByte", desc := "(I)I" } : Jvm.MethodName) prog_1_method_10_code (2 : Nat) (Option.some Jvm.ClassFile.FieldType.int)).before args0 about1 = true := code_word (m := ⟨2, 9⟩) (meth := k2m9) (c := k2c9) (by decide +kernel) rfl rfl rfl (by decide +kernel)
set_option maxRecDepth 65536 in
theorem w_c22 : (Jvm.Cond.code ({ cls := "StreamSigScanner", name := "closeSegment", desc := "()I" } : Jvm.MethodName) prog_1_method_11_code (3 : Nat) (Option.some Jvm.ClassFile.FieldType.int)).before args0 about1 = true := code_word (m := ⟨2, 10⟩) (meth := k2m10) (c := k2c10) (by decide +kernel) rfl rfl rfl (by decide +kernel)
set_option maxRecDepth 65536 in
theorem w_c23 : (Jvm.Cond.code ({ cls := "StreamSigScanner", name := "absorbByte", desc := "(III)V" } : Jvm.MethodName) prog_1_method_12_code (4 : Nat) (Option.none : Option Jvm.ClassFile.FieldType)).before args0 about1 = true := code_word (m := ⟨2, 11⟩) (meth := k2m11) (c := k2c11) (by decide +kernel) rfl rfl rfl (by decide +kernel)
set_option maxRecDepth 65536 in
theorem w_c24 : (Jvm.Cond.code ({ cls := "StreamSigScanner", name := "advanceDelivered", desc := "()V" } : Jvm.MethodName) prog_1_method_13_code (4 : Nat) (Option.none : Option Jvm.ClassFile.FieldType)).before args0 about1 = true := code_word (m := ⟨2, 12⟩) (meth := k2m12) (c := k2c12) (by decide +kernel) rfl rfl rfl (by decide +kernel)
set_option maxRecDepth 65536 in
theorem w_c25 : (Jvm.Cond.code ({ cls := "StreamSigScanner", name := "feed", desc := "(II)V" } : Jvm.MethodName) prog_1_method_14_code (7 : Nat) (Option.none : Option Jvm.ClassFile.FieldType)).before args0 about1 = true := code_word (m := ⟨2, 13⟩) (meth := k2m13) (c := k2c13) (by decide +kernel) rfl rfl rfl (by decide +kernel)
set_option maxRecDepth 65536 in
theorem w_c26 : (Jvm.Cond.code ({ cls := "StreamSigScanner", name := "recordMatch", desc := "(II)V" } : Jvm.MethodName) prog_1_method_15_code (3 : Nat) (Option.none : Option Jvm.ClassFile.FieldType)).before args0 about1 = true := code_word (m := ⟨2, 14⟩) (meth := k2m14) (c := k2c14) (by decide +kernel) rfl rfl rfl (by decide +kernel)
def codes1 : List Jvm.Cond := [Jvm.Cond.code x code maxLocals ret, Jvm.Cond.code ({ cls := "StreamSigScanner", name := "<init>", desc := "(I)V" } : Jvm.MethodName) prog_1_method_1_code (3 : Nat) (Option.none : Option Jvm.ClassFile.FieldType), Jvm.Cond.code ({ cls := "java/lang/Object", name := "<init>", desc := "()V" } : Jvm.MethodName) object_method_1_code (1 : Nat) (Option.none : Option Jvm.ClassFile.FieldType), Jvm.Cond.code ({ cls := "StreamSigScanner", name := "stat", desc := "(I)I" } : Jvm.MethodName) prog_1_method_16_code (2 : Nat) (Option.some Jvm.ClassFile.FieldType.int), Jvm.Cond.code ({ cls := "StreamSigScanner", name := "openSegment", desc := "(I)I" } : Jvm.MethodName) prog_1_method_9_code (2 : Nat) (Option.some Jvm.ClassFile.FieldType.int), Jvm.Cond.code ({ cls := "StreamSigScannerL7", name := "same", desc := "(LStreamSigScanner;LStreamSigScanner;)Z" } : Jvm.MethodName) method_2_code (3 : Nat) (Option.some Jvm.ClassFile.FieldType.boolean), Jvm.Cond.code ({ cls := "StreamSigScanner", name := "flag", desc := "(Z)I" } : Jvm.MethodName) prog_1_method_26_code (2 : Nat) (Option.some Jvm.ClassFile.FieldType.int), Jvm.Cond.code ({ cls := "StreamSigScanner", name := "byteAt", desc := "(I)I" } : Jvm.MethodName) prog_1_method_17_code (2 : Nat) (Option.some Jvm.ClassFile.FieldType.int), Jvm.Cond.code ({ cls := "StreamSigScanner", name := "isOffset", desc := "(I)Z" } : Jvm.MethodName) prog_1_method_23_code (2 : Nat) (Option.some Jvm.ClassFile.FieldType.boolean), Jvm.Cond.code ({ cls := "StreamSigScanner", name := "matchSig", desc := "(I)I" } : Jvm.MethodName) prog_1_method_20_code (2 : Nat) (Option.some Jvm.ClassFile.FieldType.int), Jvm.Cond.code ({ cls := "StreamSigScanner", name := "validRecord", desc := "(I)Z" } : Jvm.MethodName) prog_1_method_25_code (3 : Nat) (Option.some Jvm.ClassFile.FieldType.boolean), Jvm.Cond.code ({ cls := "StreamSigScanner", name := "matchEnd", desc := "(I)I" } : Jvm.MethodName) prog_1_method_21_code (2 : Nat) (Option.some Jvm.ClassFile.FieldType.int), Jvm.Cond.code ({ cls := "StreamSigScanner", name := "endSig", desc := "()I" } : Jvm.MethodName) prog_1_method_3_code (2 : Nat) (Option.some Jvm.ClassFile.FieldType.int), Jvm.Cond.code ({ cls := "StreamSigScanner", name := "addSigByte", desc := "(I)I" } : Jvm.MethodName) prog_1_method_2_code (3 : Nat) (Option.some Jvm.ClassFile.FieldType.int), Jvm.Cond.code ({ cls := "StreamSigScanner", name := "isByte", desc := "(I)Z" } : Jvm.MethodName) prog_1_method_22_code (2 : Nat) (Option.some Jvm.ClassFile.FieldType.boolean), Jvm.Cond.code ({ cls := "StreamSigScanner", name := "compile", desc := "()I" } : Jvm.MethodName) prog_1_method_4_code (1 : Nat) (Option.some Jvm.ClassFile.FieldType.int), Jvm.Cond.code ({ cls := "StreamSigScanner", name := "buildTrie", desc := "()V" } : Jvm.MethodName) prog_1_method_5_code (2 : Nat) (Option.none : Option Jvm.ClassFile.FieldType), Jvm.Cond.code ({ cls := "StreamSigScanner", name := "clearAutomaton", desc := "()V" } : Jvm.MethodName) prog_1_method_6_code (2 : Nat) (Option.none : Option Jvm.ClassFile.FieldType), Jvm.Cond.code ({ cls := "StreamSigScanner", name := "insertSig", desc := "(I)V" } : Jvm.MethodName) prog_1_method_7_code (8 : Nat) (Option.none : Option Jvm.ClassFile.FieldType), Jvm.Cond.code ({ cls := "StreamSigScanner", name := "buildAutomaton", desc := "()V" } : Jvm.MethodName) prog_1_method_8_code (9 : Nat) (Option.none : Option Jvm.ClassFile.FieldType), Jvm.Cond.code ({ cls := "StreamSigScannerL7", name := "fill", desc := "(LStreamSigScanner;III)Z" } : Jvm.MethodName) method_3_code (6 : Nat) (Option.some Jvm.ClassFile.FieldType.boolean), Jvm.Cond.code ({ cls := "StreamSigScanner", name := "segByte", desc := "(I)I" } : Jvm.MethodName) prog_1_method_10_code (2 : Nat) (Option.some Jvm.ClassFile.FieldType.int), Jvm.Cond.code ({ cls := "StreamSigScanner", name := "closeSegment", desc := "()I" } : Jvm.MethodName) prog_1_method_11_code (3 : Nat) (Option.some Jvm.ClassFile.FieldType.int), Jvm.Cond.code ({ cls := "StreamSigScanner", name := "absorbByte", desc := "(III)V" } : Jvm.MethodName) prog_1_method_12_code (4 : Nat) (Option.none : Option Jvm.ClassFile.FieldType), Jvm.Cond.code ({ cls := "StreamSigScanner", name := "advanceDelivered", desc := "()V" } : Jvm.MethodName) prog_1_method_13_code (4 : Nat) (Option.none : Option Jvm.ClassFile.FieldType), Jvm.Cond.code ({ cls := "StreamSigScanner", name := "feed", desc := "(II)V" } : Jvm.MethodName) prog_1_method_14_code (7 : Nat) (Option.none : Option Jvm.ClassFile.FieldType), Jvm.Cond.code ({ cls := "StreamSigScanner", name := "recordMatch", desc := "(II)V" } : Jvm.MethodName) prog_1_method_15_code (3 : Nat) (Option.none : Option Jvm.ClassFile.FieldType)]
set_option maxRecDepth 65536 in
theorem codes_eq : words1.filter isCode = codes1 := rfl
theorem w_codes : ∀ c ∈ words1.filter isCode, c.before args0 about1 = true := by
  rw [codes_eq]
  intro c hc
  simp only [codes1, List.mem_cons, List.not_mem_nil, or_false] at hc
  rcases hc with rfl | rfl | rfl | rfl | rfl | rfl | rfl | rfl | rfl | rfl | rfl | rfl | rfl | rfl | rfl | rfl | rfl | rfl | rfl | rfl | rfl | rfl | rfl | rfl | rfl | rfl | rfl
  · exact w_c0
  · exact w_c1
  · exact w_c2
  · exact w_c3
  · exact w_c4
  · exact w_c5
  · exact w_c6
  · exact w_c7
  · exact w_c8
  · exact w_c9
  · exact w_c10
  · exact w_c11
  · exact w_c12
  · exact w_c13
  · exact w_c14
  · exact w_c15
  · exact w_c16
  · exact w_c17
  · exact w_c18
  · exact w_c19
  · exact w_c20
  · exact w_c21
  · exact w_c22
  · exact w_c23
  · exact w_c24
  · exact w_c25
  · exact w_c26
set_option maxRecDepth 65536 in
theorem w_t1 : (words1.take 24).all (fun c => isCode c || c.before args0 about1) = true := by decide +kernel
set_option maxRecDepth 65536 in
theorem w_t2 : ((words1.drop 24).take 24).all (fun c => isCode c || c.before args0 about1) = true := by decide +kernel
set_option maxRecDepth 65536 in
theorem w_t3 : (((words1.drop 24).drop 24).take 24).all (fun c => isCode c || c.before args0 about1) = true := by decide +kernel
set_option maxRecDepth 65536 in
theorem w_t4 : ((((words1.drop 24).drop 24).drop 24).take 24).all (fun c => isCode c || c.before args0 about1) = true := by decide +kernel
set_option maxRecDepth 65536 in
theorem w_t5 : (((((words1.drop 24).drop 24).drop 24).drop 24).take 24).all (fun c => isCode c || c.before args0 about1) = true := by decide +kernel
set_option maxRecDepth 65536 in
theorem w_t6 : ((((((words1.drop 24).drop 24).drop 24).drop 24).drop 24).take 24).all (fun c => isCode c || c.before args0 about1) = true := by decide +kernel
set_option maxRecDepth 65536 in
theorem w_t7 : (((((((words1.drop 24).drop 24).drop 24).drop 24).drop 24).drop 24).take 24).all (fun c => isCode c || c.before args0 about1) = true := by decide +kernel
set_option maxRecDepth 65536 in
theorem w_t8 : (((((((words1.drop 24).drop 24).drop 24).drop 24).drop 24).drop 24).drop 24).all (fun c => isCode c || c.before args0 about1) = true := by decide +kernel
theorem w_tables : (allAtoms (Jvm.Cond.code x code maxLocals ret :: tables_1)).before args0 about1 = true := by
  rw [allAtoms_all]
  show words1.all (fun c => c.before args0 about1) = true
  refine all_split ?_ w_codes
  rw [← List.take_append_drop 24 words1, List.all_append, w_t1, ← List.take_append_drop 24 (words1.drop 24), List.all_append, w_t2, ← List.take_append_drop 24 ((words1.drop 24).drop 24), List.all_append, w_t3, ← List.take_append_drop 24 (((words1.drop 24).drop 24).drop 24), List.all_append, w_t4, ← List.take_append_drop 24 ((((words1.drop 24).drop 24).drop 24).drop 24), List.all_append, w_t5, ← List.take_append_drop 24 (((((words1.drop 24).drop 24).drop 24).drop 24).drop 24), List.all_append, w_t6, ← List.take_append_drop 24 ((((((words1.drop 24).drop 24).drop 24).drop 24).drop 24).drop 24), List.all_append, w_t7, w_t8]
  rfl
set_option maxRecDepth 65536 in
theorem w_rest : rest_1_c.before args0 about1 = true := by decide +kernel
set_option maxRecDepth 65536 in
theorem w_case : (Jvm.Cond.and given_1 narrow_1).before args0 about1 = true := by decide +kernel
theorem w_applies : (headSpec (Jvm.Cond.code x code maxLocals ret :: tables_1) room_1).applies x e0.platform about1 = true :=
  (Spec.applies_iff w_frames).mpr ⟨w_running, w_runnable, w_alone, w_named, w_hears, w_ripe, w_room, w_tables⟩
theorem atStart : AtStart classFile x code maxLocals ret World_1 tables_1 room_1 Calls_1 rest_1 Pre_1 launch0 p0 e0 about1 theMethod args0 below0 :=
  ⟨lists_1, trivial, launch0.admits_env _ _ _, launch0.least_env, fairChoices_fair.cas, fairChoices_fair.clock, w_frames, w_args, w_heap, w_applies, trivial, w_rest, w_case⟩
end start1
theorem witness_1 : WitnessClaimed_1 := ⟨start1.p0, start1.e0, start1.about1, start1.theMethod, start1.args0, start1.below0, start1.atStart⟩
end Jvm.Pilot.@@N@@
