import JvmDerived
import JvmDerived.Pilot.@@N@@Statement
import JvmDerived.Pilot.@@N@@Code
set_option linter.unusedVariables false
set_option linter.unusedSimpArgs false
namespace Jvm.Own
open Sem ClassFile Op Lib Jvm.Stand Jvm.Free Jvm.LawKit Jvm.RoadKit
/-! OWN 1: words of the sheet, resolved -/
abbrev AHeap := List (FieldType × List Value)
abbrev Ws := List Jvm.Cond
def rFld (ws : Ws) (own : String) (i : Nat) : Option (String × String × String) :=
  ws.findSome? fun d => match d with
    | .fieldLink o j C n t => if o = own ∧ j = i then some (C, n, t) else none
    | _ => none
def rCls (ws : Ws) (own : String) (i : Nat) : Option String :=
  ws.findSome? fun d => match d with
    | .classLink o j C => if o = own ∧ j = i then some C else none
    | _ => none
def rMth (ws : Ws) (own : String) (i : Nat) : Option MethodName :=
  ws.findSome? fun d => match d with
    | .methodLink o j y => if o = own ∧ j = i then some y else none
    | _ => none
def rCon (ws : Ws) (own : String) (i : Nat) : Option Int32 :=
  ws.findSome? fun d => match d with
    | .constant o j v => if o = own ∧ j = i then some v else none
    | _ => none
def rConL (ws : Ws) (own : String) (i : Nat) : Option Int64 :=
  ws.findSome? fun d => match d with
    | .constantLong o j v => if o = own ∧ j = i then some v else none
    | _ => none
def rInst (ws : Ws) (C : String) : Option Nat :=
  ws.findSome? fun d => match d with
    | .instantiable c n => if c = C then some n else none
    | _ => none
def rCode (ws : Ws) (y : MethodName) : Option (ByteArray × Nat × Option FieldType) :=
  ws.findSome? fun d => match d with
    | .code z b m r => if z = y then some (b, m, r) else none
    | _ => none
def hasInit (ws : Ws) (C : String) : Bool := ws.any fun d => match d with | .initialized c => c == C | _ => false
def hasArr (ws : Ws) (t : FieldType) : Bool := ws.any fun d => match d with | .arrayClass c => decide (c = t) | _ => false
def hasStat (ws : Ws) (y : MethodName) : Bool := ws.any fun d => match d with | .static z => decide (z = y) | _ => false
def hasIM (ws : Ws) (y : MethodName) : Bool := ws.any fun d => match d with | .instanceMethod z => decide (z = y) | _ => false
def hasPriv (ws : Ws) (y : MethodName) : Bool := ws.any fun d => match d with | .privateMethod z => decide (z = y) | _ => false
def hasDecl (ws : Ws) (y : MethodName) : Bool := ws.any fun d => match d with | .declares z => decide (z = y) | _ => false
def hasSel (ws : Ws) (y : MethodName) : Bool := ws.any fun d => match d with | .selects c z z' => decide (c = y.cls ∧ z = y ∧ z' = y) | _ => false
def hasLays (ws : Ws) (C n t : String) : Bool := ws.any fun d => match d with | .lays c o n' t' => decide (c = C ∧ o = C ∧ n' = n ∧ t' = t) | _ => false
def hasLaysF (ws : Ws) (C n t : String) : Bool := ws.any fun d => match d with | .laysFinal c o n' t' => decide (c = C ∧ o = C ∧ n' = n ∧ t' = t) | _ => false
def layE (C : String) : Jvm.Cond → Option (String × String)
  | .lays c o n t => if c = C ∧ o = C ∧ (parseFieldDescriptor t).isSome = true then some (n, t) else none
  | .laysFinal c o n t => if c = C ∧ o = C ∧ (parseFieldDescriptor t).isSome = true then some (n, t) else none
  | _ => none
def olay (ws : Ws) (C : String) : List (String × String) := ws.filterMap (layE C)
def idx (x : String × String) : List (String × String) → Option Nat
  | [] => none
  | y :: r => if y = x then some 0 else (idx x r).map (· + 1)
def fidx (ws : Ws) (C n t : String) : Option Nat := idx (n, t) (olay ws C)
def gfR (ws : Ws) (own : String) (i : Nat) : Option (String × Nat) :=
  match rFld ws own i with
  | some (C, n, t) => (fidx ws C n t).map fun j => (C, j)
  | none => none
def pfR (ws : Ws) (own mn : String) (i : Nat) : Option (String × Nat × FieldType) :=
  match rFld ws own i with
  | some (C, n, t) =>
    match fidx ws C n t, parseFieldDescriptor t with
    | some j, some ty => if (hasLays ws C n t || (hasLaysF ws C n t && own == C && mn == "<init>")) && (rInst ws C).isSome && (olay ws C).all (fun q => q.1 != n || q.2 == t) then some (C, j, ty) else none
    | _, _ => none
  | none => none
section Res
variable {ws : Ws} {own C n t : String} {i : Nat} {y : MethodName}
theorem rFld_mem (h : rFld ws own i = some (C, n, t)) : Jvm.Cond.fieldLink own i C n t ∈ ws := by
  obtain ⟨d, hd, e⟩ := List.exists_of_findSome?_eq_some h
  split at e
  · split at e
    · rename_i q; obtain ⟨rfl, rfl⟩ := q; cases e; exact hd
    · cases e
  · cases e
theorem rCls_mem (h : rCls ws own i = some C) : Jvm.Cond.classLink own i C ∈ ws := by
  obtain ⟨d, hd, e⟩ := List.exists_of_findSome?_eq_some h
  split at e
  · split at e
    · rename_i q; obtain ⟨rfl, rfl⟩ := q; cases e; exact hd
    · cases e
  · cases e
theorem rMth_mem (h : rMth ws own i = some y) : Jvm.Cond.methodLink own i y ∈ ws := by
  obtain ⟨d, hd, e⟩ := List.exists_of_findSome?_eq_some h
  split at e
  · split at e
    · rename_i q; obtain ⟨rfl, rfl⟩ := q; cases e; exact hd
    · cases e
  · cases e
theorem rCon_mem {v : Int32} (h : rCon ws own i = some v) : Jvm.Cond.constant own i v ∈ ws := by
  obtain ⟨d, hd, e⟩ := List.exists_of_findSome?_eq_some h
  split at e
  · split at e
    · rename_i q; obtain ⟨rfl, rfl⟩ := q; cases e; exact hd
    · cases e
  · cases e
theorem rConL_mem {v : Int64} (h : rConL ws own i = some v) : Jvm.Cond.constantLong own i v ∈ ws := by
  obtain ⟨d, hd, e⟩ := List.exists_of_findSome?_eq_some h
  split at e
  · split at e
    · rename_i q; obtain ⟨rfl, rfl⟩ := q; cases e; exact hd
    · cases e
  · cases e
theorem rInst_mem {k : Nat} (h : rInst ws C = some k) : Jvm.Cond.instantiable C k ∈ ws := by
  obtain ⟨d, hd, e⟩ := List.exists_of_findSome?_eq_some h
  split at e
  · split at e
    · rename_i q; subst q; cases e; exact hd
    · cases e
  · cases e
theorem rCode_mem {b : ByteArray} {k : Nat} {r : Option FieldType} (h : rCode ws y = some (b, k, r)) : Jvm.Cond.code y b k r ∈ ws := by
  obtain ⟨d, hd, e⟩ := List.exists_of_findSome?_eq_some h
  split at e
  · split at e
    · rename_i q; subst q; cases e; exact hd
    · cases e
  · cases e
theorem hasInit_mem (h : hasInit ws C = true) : Jvm.Cond.initialized C ∈ ws := by
  obtain ⟨d, hd, e⟩ := List.any_eq_true.mp h
  split at e
  · rw [beq_iff_eq] at e; subst e; exact hd
  · cases e
theorem hasArr_mem {ty : FieldType} (h : hasArr ws ty = true) : Jvm.Cond.arrayClass ty ∈ ws := by
  obtain ⟨d, hd, e⟩ := List.any_eq_true.mp h
  split at e
  · have e := of_decide_eq_true e; subst e; exact hd
  · cases e
theorem hasStat_mem (h : hasStat ws y = true) : Jvm.Cond.static y ∈ ws := by
  obtain ⟨d, hd, e⟩ := List.any_eq_true.mp h
  split at e
  · have e := of_decide_eq_true e; subst e; exact hd
  · cases e
theorem hasIM_mem (h : hasIM ws y = true) : Jvm.Cond.instanceMethod y ∈ ws := by
  obtain ⟨d, hd, e⟩ := List.any_eq_true.mp h
  split at e
  · have e := of_decide_eq_true e; subst e; exact hd
  · cases e
theorem hasPriv_mem (h : hasPriv ws y = true) : Jvm.Cond.privateMethod y ∈ ws := by
  obtain ⟨d, hd, e⟩ := List.any_eq_true.mp h
  split at e
  · have e := of_decide_eq_true e; subst e; exact hd
  · cases e
theorem hasDecl_mem (h : hasDecl ws y = true) : Jvm.Cond.declares y ∈ ws := by
  obtain ⟨d, hd, e⟩ := List.any_eq_true.mp h
  split at e
  · have e := of_decide_eq_true e; subst e; exact hd
  · cases e
theorem hasSel_mem (h : hasSel ws y = true) : Jvm.Cond.selects y.cls y y ∈ ws := by
  obtain ⟨d, hd, e⟩ := List.any_eq_true.mp h
  split at e
  · obtain ⟨rfl, rfl, rfl⟩ := of_decide_eq_true e; exact hd
  · cases e
theorem hasLays_mem (h : hasLays ws C n t = true) : Jvm.Cond.lays C C n t ∈ ws := by
  obtain ⟨d, hd, e⟩ := List.any_eq_true.mp h
  split at e
  · obtain ⟨rfl, rfl, rfl, rfl⟩ := of_decide_eq_true e; exact hd
  · cases e
theorem hasLaysF_mem (h : hasLaysF ws C n t = true) : Jvm.Cond.laysFinal C C n t ∈ ws := by
  obtain ⟨d, hd, e⟩ := List.any_eq_true.mp h
  split at e
  · obtain ⟨rfl, rfl, rfl, rfl⟩ := of_decide_eq_true e; exact hd
  · cases e
theorem lay_mem (h : (n, t) ∈ olay ws C) : (Jvm.Cond.lays C C n t ∈ ws ∨ Jvm.Cond.laysFinal C C n t ∈ ws) ∧ ∃ ty, parseFieldDescriptor t = some ty := by
  obtain ⟨d, hd, e⟩ := List.mem_filterMap.mp h
  unfold layE at e
  split at e
  · split at e
    · rename_i q; obtain ⟨rfl, rfl, q⟩ := q; cases e; exact ⟨Or.inl hd, Option.isSome_iff_exists.mp q⟩
    · cases e
  · split at e
    · rename_i q; obtain ⟨rfl, rfl, q⟩ := q; cases e; exact ⟨Or.inr hd, Option.isSome_iff_exists.mp q⟩
    · cases e
  · cases e
theorem idx_get {x : String × String} : ∀ {l : List (String × String)} {j : Nat}, idx x l = some j → l[j]? = some x
  | [], _, h => by cases h
  | y :: r, j, h => by
    unfold idx at h
    split at h
    · rename_i q; cases h; simp [q]
    · obtain ⟨j', h', rfl⟩ := Option.map_eq_some_iff.mp h
      simpa using idx_get h'
theorem fidx_mem {j : Nat} (h : fidx ws C n t = some j) : (n, t) ∈ olay ws C := List.mem_of_getElem? (idx_get h)
theorem fidx_inj {n' t' : String} {j : Nat} (h : fidx ws C n t = some j) (h' : fidx ws C n' t' = some j) : n = n' ∧ t = t' := by
  have := (idx_get h).symm.trans (idx_get h')
  simpa using this
theorem gfR_some {j : Nat} (h : gfR ws own i = some (C, j)) : ∃ n t, rFld ws own i = some (C, n, t) ∧ fidx ws C n t = some j := by
  unfold gfR at h
  split at h
  · rename_i C' n' t' q
    obtain ⟨j', h', e⟩ := Option.map_eq_some_iff.mp h
    cases e; exact ⟨_, _, q, h'⟩
  · cases h
theorem pfR_some {mn : String} {j : Nat} {ty : FieldType} (h : pfR ws own mn i = some (C, j, ty)) : ∃ n t, rFld ws own i = some (C, n, t) ∧ fidx ws C n t = some j ∧ parseFieldDescriptor t = some ty ∧
    (Jvm.Cond.lays C C n t ∈ ws ∨ (Jvm.Cond.laysFinal C C n t ∈ ws ∧ own = C ∧ mn = "<init>")) ∧ (∃ k, Jvm.Cond.instantiable C k ∈ ws) ∧ ∀ n' t', (n', t') ∈ olay ws C → n' ≠ n ∨ t' = t := by
  unfold pfR at h
  split at h
  · rename_i C' n' t' q
    split at h
    · rename_i j' ty' q1 q2
      split at h
      · rename_i g
        cases h
        simp only [Bool.and_eq_true, Bool.or_eq_true, beq_iff_eq, List.all_eq_true, bne_iff_ne, ne_eq] at g
        obtain ⟨⟨g1, g2⟩, g3⟩ := g
        obtain ⟨k, hk⟩ := Option.isSome_iff_exists.mp g2
        refine ⟨n', t', q, q1, q2, ?_, ⟨k, rInst_mem hk⟩, fun a b hab => g3 (a, b) hab⟩
        rcases g1 with g1 | ⟨⟨g1, g4⟩, g5⟩
        · exact Or.inl (hasLays_mem g1)
        · exact Or.inr ⟨hasLaysF_mem g1, g4, g5⟩
      · cases h
    · cases h
  · cases h
end Res
end Jvm.Own
namespace Jvm.Own
open Sem ClassFile Op Lib Jvm.Stand Jvm.Free Jvm.LawKit Jvm.RoadKit
/-! OWN 2: the abstract machine -/
abbrev XR := Option (Nat × List Slot × List Value)
def chk {α : Type} (a b : Nat) (x : Option α) : Option α := if a = b then x else none
def isI : Value → Bool | .int _ => true | _ => false
def isL : Value → Bool | .long _ => true | _ => false
def stl (ls : List Slot) (i : Nat) (v : Value) : Option (List Slot) := (storeLocals ls.toArray i v).map Array.toList
def ldV (p : Value → Bool) (nx i : Nat) (ls : List Slot) (st : List Value) : XR :=
  match ls[i]? with
  | some (.val v) => if p v = true then some (nx, ls, v :: st) else none
  | _ => none
def stV (p : Value → Bool) (nx i : Nat) (ls : List Slot) : List Value → XR
  | v :: r => if p v = true then (stl ls i v).map fun l' => (nx, l', r) else none
  | [] => none
def b2 (f : Int32 → Int32 → Int32) (nx : Nat) (ls : List Slot) : List Value → XR
  | .int y :: .int x :: r => some (nx, ls, .int (f x y) :: r)
  | _ => none
def d2 (f : Int32 → Int32 → Int32) (nx : Nat) (ls : List Slot) : List Value → XR
  | .int y :: .int x :: r => if y = 0 then none else some (nx, ls, .int (f x y) :: r)
  | _ => none
def u1 (f : Int32 → Int32) (nx : Nat) (ls : List Slot) : List Value → XR
  | .int x :: r => some (nx, ls, .int (f x) :: r)
  | _ => none
def l2 (f : Int64 → Int64 → Int64) (nx : Nat) (ls : List Slot) : List Value → XR
  | .long y :: .long x :: r => some (nx, ls, .long (f x y) :: r)
  | _ => none
def lsh (f : Int64 → Int32 → Int64) (nx : Nat) (ls : List Slot) : List Value → XR
  | .int y :: .long x :: r => some (nx, ls, .long (f x y) :: r)
  | _ => none
def jmp (pc : Nat) (o : Int) : Option Nat := if 0 ≤ (pc : Int) + o then some ((pc : Int) + o).toNat else none
def br (c : Bool) (pc : Nat) (o : Int) (ls : List Slot) (r : List Value) : XR :=
  if c = true then (jmp pc o).map fun q => (q, ls, r) else some (pc + 3, ls, r)
def sw (pc : Nat) (dflt low high : Int) (offs : Array Int) (ls : List Slot) : List Value → XR
  | .int i :: r => if i.toInt < low ∨ i.toInt > high then (jmp pc dflt).map fun q => (q, ls, r) else
      match offs[(i.toInt - low).toNat]? with
      | some o => (jmp pc o).map fun q => (q, ls, r)
      | none => none
  | _ => none
def xstep (ins : Instr) (len pc : Nat) (ls : List Slot) (st : List Value) : XR :=
  match ins with
  | .aload_n i => chk len 1 (ldV Value.isRef (pc + 1) i.val ls st)
  | .aload i => chk len 2 (ldV Value.isRef (pc + 2) i ls st)
  | .iload_n i => chk len 1 (ldV isI (pc + 1) i.val ls st)
  | .iload i => chk len 2 (ldV isI (pc + 2) i ls st)
  | .lload_n i => chk len 1 (ldV isL (pc + 1) i.val ls st)
  | .lload i => chk len 2 (ldV isL (pc + 2) i ls st)
  | .astore_n i => chk len 1 (stV Value.isRef (pc + 1) i.val ls st)
  | .astore i => chk len 2 (stV Value.isRef (pc + 2) i ls st)
  | .istore_n i => chk len 1 (stV isI (pc + 1) i.val ls st)
  | .istore i => chk len 2 (stV isI (pc + 2) i ls st)
  | .lstore_n i => chk len 1 (stV isL (pc + 1) i.val ls st)
  | .lstore i => chk len 2 (stV isL (pc + 2) i ls st)
  | .iconst i => chk len 1 (some (pc + 1, ls, .int (Int32.ofInt i) :: st))
  | .bipush i => chk len 2 (some (pc + 2, ls, .int (Int8.ofInt i).toInt32 :: st))
  | .sipush i => chk len 3 (some (pc + 3, ls, .int (Int16.ofInt i).toInt32 :: st))
  | .lconst i => chk len 1 (some (pc + 1, ls, .long (Int64.ofNat i) :: st))
  | .iadd => chk len 1 (b2 (fun x y => x + y) (pc + 1) ls st)
  | .isub => chk len 1 (b2 (fun x y => x - y) (pc + 1) ls st)
  | .imul => chk len 1 (b2 (fun x y => x * y) (pc + 1) ls st)
  | .iand => chk len 1 (b2 (fun x y => x &&& y) (pc + 1) ls st)
  | .ior => chk len 1 (b2 (fun x y => x ||| y) (pc + 1) ls st)
  | .ixor => chk len 1 (b2 (fun x y => x ^^^ y) (pc + 1) ls st)
  | .ishl => chk len 1 (b2 (fun x y => x <<< (y &&& 31)) (pc + 1) ls st)
  | .ishr => chk len 1 (b2 (fun x y => x >>> (y &&& 31)) (pc + 1) ls st)
  | .iushr => chk len 1 (b2 XT.ushr (pc + 1) ls st)
  | .idiv => chk len 1 (d2 (fun x y => x / y) (pc + 1) ls st)
  | .irem => chk len 1 (d2 (fun x y => x % y) (pc + 1) ls st)
  | .ineg => chk len 1 (u1 (fun x => -x) (pc + 1) ls st)
  | .i2b => chk len 1 (u1 (fun x => x.toInt8.toInt32) (pc + 1) ls st)
  | .i2c => chk len 1 (u1 (fun x => x.toUInt32.toUInt16.toUInt32.toInt32) (pc + 1) ls st)
  | .ladd => chk len 1 (l2 (fun x y => x + y) (pc + 1) ls st)
  | .lsub => chk len 1 (l2 (fun x y => x - y) (pc + 1) ls st)
  | .lmul => chk len 1 (l2 (fun x y => x * y) (pc + 1) ls st)
  | .land => chk len 1 (l2 (fun x y => x &&& y) (pc + 1) ls st)
  | .lor => chk len 1 (l2 (fun x y => x ||| y) (pc + 1) ls st)
  | .lxor => chk len 1 (l2 (fun x y => x ^^^ y) (pc + 1) ls st)
  | .lshl => chk len 1 (lsh (fun x y => x <<< (y.toInt64 &&& 63)) (pc + 1) ls st)
  | .lshr => chk len 1 (lsh (fun x y => x >>> (y.toInt64 &&& 63)) (pc + 1) ls st)
  | .lushr => chk len 1 (lsh XT.ushrL (pc + 1) ls st)
  | .lneg => chk len 1 (match st with | .long x :: r => some (pc + 1, ls, .long (-x) :: r) | _ => none)
  | .i2l => chk len 1 (match st with | .int x :: r => some (pc + 1, ls, .long x.toInt64 :: r) | _ => none)
  | .l2i => chk len 1 (match st with | .long x :: r => some (pc + 1, ls, .int x.toInt32 :: r) | _ => none)
  | .lcmp => chk len 1 (match st with | .long y :: .long x :: r => some (pc + 1, ls, .int (XT.cmpL x y) :: r) | _ => none)
  | .iinc i cst => chk len 3 (match ls[i]? with | some (.val (.int x)) => (stl ls i (.int (x + Int32.ofInt cst))).map fun l' => (pc + 3, l', st) | _ => none)
  | .dup => chk len 1 (match st with | x :: r => if x.category = 1 then some (pc + 1, ls, x :: x :: r) else none | _ => none)
  | .dup2 => chk len 1 (match st with
      | .long x :: r => some (pc + 1, ls, .long x :: .long x :: r)
      | x :: y :: r => if x.category = 1 ∧ y.category = 1 then some (pc + 1, ls, x :: y :: x :: y :: r) else none
      | _ => none)
  | .pop => chk len 1 (match st with | x :: r => if x.category = 1 then some (pc + 1, ls, r) else none | _ => none)
  | .goto o => chk len 3 ((jmp pc o).map fun q => (q, ls, st))
  | .ifCond cd o => chk len 3 (match st with | .int x :: r => br (ifCond.holds cd x) pc o ls r | _ => none)
  | .if_icmp cd o => chk len 3 (match st with | .int y :: .int x :: r => br (if_icmp.holds cd x y) pc o ls r | _ => none)
  | .tableswitch dflt low high offs => sw pc dflt low high offs ls st
  | _ => none
abbrev HR := Option (Nat × List Value × AHeap)
def putv : FieldType → Value → Option Value
  | .int, .int x => some (.int x)
  | .boolean, .int x => some (.int (nar .boolean x))
  | .byte, .int x => some (.int (nar .byte x))
  | .char, .int x => some (.int (nar .char x))
  | .short, .int x => some (.int (nar .short x))
  | .long, .long x => some (.long x)
  | .array _, .ref a => some (.ref a)
  | _, _ => none
def dflt (q : String × String) : Value := match parseFieldDescriptor q.2 with | some ty => defaultValue ty | none => .null
def hGet (ws : Ws) (own : String) (i pc : Nat) (H : AHeap) : List Value → HR
  | .ref a :: r =>
    match gfR ws own i, H[a]? with
    | some (C, j), some (.object C', vs) => if C = C' then (vs[j]?).map fun v => (pc + 3, v :: r, H) else none
    | _, _ => none
  | _ => none
def hPut (ws : Ws) (k : Nat) (own mn : String) (i pc : Nat) (H : AHeap) : List Value → HR
  | v :: .ref a :: r =>
    match pfR ws own mn i, H[a]? with
    | some (C, j, ty), some (.object C', vs) => if C = C' ∧ k ≤ a ∧ j < vs.length then (putv ty v).map fun v' => (pc + 3, r, H.set a (.object C', vs.set j v')) else none
    | _, _ => none
  | _ => none
def hNew (ws : Ws) (own : String) (i pc : Nat) (H : AHeap) (st : List Value) : HR :=
  match rCls ws own i with
  | some C => if (rInst ws C).isSome = true ∧ hasInit ws C = true then some (pc + 3, .ref H.length :: st, H ++ [(.object C, (olay ws C).map dflt)]) else none
  | none => none
def hNewA (ws : Ws) (aty : ArrayType) (pc : Nat) (H : AHeap) : List Value → HR
  | .int n :: r => if hasArr ws (newarray.typeOf aty) = true ∧ ¬ n < 0 ∧ n.toNatClampNeg * 8 ≤ 536870912 then
      some (pc + 2, .ref H.length :: r, H ++ [(.array (newarray.typeOf aty), List.replicate n.toNatClampNeg (defaultValue (newarray.typeOf aty)))]) else none
  | _ => none
def hLd (ok : FieldType → Bool) (pc : Nat) (H : AHeap) : List Value → HR
  | .int j :: .ref a :: r =>
    match H[a]? with
    | some (.array ty, vs) => if ok ty = true ∧ ¬ j < 0 then (vs[j.toNatClampNeg]?).map fun v => (pc + 1, v :: r, H) else none
    | _ => none
  | _ => none
def hSt (ok : FieldType → Bool) (k pc : Nat) (H : AHeap) : List Value → HR
  | v :: .int j :: .ref a :: r =>
    match H[a]? with
    | some (.array ty, vs) => if ok ty = true ∧ k ≤ a ∧ ¬ j < 0 ∧ j.toNatClampNeg < vs.length then (putv ty v).map fun v' => (pc + 1, r, H.set a (.array ty, vs.set j.toNatClampNeg v')) else none
    | _ => none
  | _ => none
def hLen (pc : Nat) (H : AHeap) : List Value → HR
  | .ref a :: r =>
    match H[a]? with
    | some (.array _, vs) => some (pc + 1, .int vs.length.toInt32 :: r, H)
    | _ => none
  | _ => none
def okT (t u : FieldType) : Bool := decide (u = t)
def okB (u : FieldType) : Bool := decide (u = .byte) || decide (u = .boolean)
def hstep (ws : Ws) (k : Nat) (y : MethodName) (ins : Instr) (len pc : Nat) (st : List Value) (H : AHeap) : HR :=
  match ins with
  | .getfield i => chk len 3 (hGet ws y.cls i pc H st)
  | .putfield i => chk len 3 (hPut ws k y.cls y.name i pc H st)
  | .new i => chk len 3 (hNew ws y.cls i pc H st)
  | .newarray aty => chk len 2 (hNewA ws aty pc H st)
  | .iaload => chk len 1 (hLd (okT .int) pc H st)
  | .caload => chk len 1 (hLd (okT .char) pc H st)
  | .laload => chk len 1 (hLd (okT .long) pc H st)
  | .baload => chk len 1 (hLd okB pc H st)
  | .iastore => chk len 1 (hSt (okT .int) k pc H st)
  | .castore => chk len 1 (hSt (okT .char) k pc H st)
  | .lastore => chk len 1 (hSt (okT .long) k pc H st)
  | .bastore => chk len 1 (hSt okB k pc H st)
  | .arraylength => chk len 1 (hLen pc H st)
  | .ldc i => chk len 2 ((rCon ws y.cls i).map fun v => (pc + 2, .int v :: st, H))
  | .ldc_w i => chk len 3 ((rCon ws y.cls i).map fun v => (pc + 3, .int v :: st, H))
  | .ldc2_w i => chk len 3 ((rConL ws y.cls i).map fun v => (pc + 3, .long v :: st, H))
  | _ => none
def ent : List Value → List Slot
  | [] => []
  | v :: r => if v.category = 2 then .val v :: .second :: ent r else .val v :: ent r
def entry (as : List Value) (mx : Nat) : List Slot := ent as ++ List.replicate (mx - (ent as).length) .unset
def wsum (st : List Value) : Nat := (st.map fun v => v.category).sum
abbrev Dn := List (MethodName × Nat × Nat)
def dnOf (dn : Dn) (y : MethodName) : Option (Nat × Nat) := dn.findSome? fun q => if q.1 = y then some q.2 else none
/-- what a methodref says: callee, its code, max_locals, return, number of parameters, slack for what lies under -/
def cR (ws : Ws) (dn : Dn) (y : MethodName) (i : Nat) : Option (MethodName × ByteArray × Nat × Option FieldType × Nat × Nat) :=
  match rMth ws y.cls i with
  | none => none
  | some y' =>
    match rCode ws y', dnOf dn y', dnOf dn y, parseMethodDescriptor y'.desc with
    | some (b, mx, r), some (f', l'), some (f, l), some sig =>
      if hasInit ws y'.cls = true ∧ Jvm.plainName y'.cls = true ∧ y'.cls ≠ "java/lang/invoke/MethodHandle" ∧ y'.cls ≠ "java/lang/invoke/VarHandle" ∧ f' + 1 ≤ f ∧ mx + 11 + l' ≤ l then
        some (y', b, mx, r, sig.parameters.length, l - (mx + 11 + l')) else none
    | _, _, _, _ => none
def sR (ws : Ws) (dn : Dn) (y : MethodName) (i : Nat) : Option (MethodName × ByteArray × Nat × Option FieldType × Nat × Nat) :=
  match cR ws dn y i with
  | some q => if hasStat ws q.1 = true then some q else none
  | none => none
def nR (ws : Ws) (dn : Dn) (y : MethodName) (i : Nat) : Option (MethodName × ByteArray × Nat × Option FieldType × Nat × Nat) :=
  match cR ws dn y i with
  | some q => if q.1.name = "<init>" ∧ hasIM ws q.1 = true ∧ q.2.2.2.1 = none then some q else none
  | none => none
/-- the first: is it private? -/
def vR (ws : Ws) (dn : Dn) (y : MethodName) (i : Nat) : Option (Bool × MethodName × ByteArray × Nat × Option FieldType × Nat × Nat) :=
  match cR ws dn y i with
  | some q => if hasIM ws q.1 = true then
      (if hasPriv ws q.1 = true ∧ (rInst ws q.1.cls).isSome = true then some (true, q) else if hasDecl ws q.1 = true ∧ hasSel ws q.1 = true then some (false, q) else none) else none
  | none => none
/-- Object.<init>: how many words may lie under it -/
def oR (ws : Ws) (dn : Dn) (y : MethodName) (i : Nat) : Option Nat :=
  match rMth ws y.cls i, rCode ws Lib.objectInit, dnOf dn y with
  | some y', some (b, mx, r), some (f, l) =>
    if y' = Lib.objectInit ∧ hasIM ws Lib.objectInit = true ∧ b.data = #[0xb1] ∧ mx = 1 ∧ r = none ∧ 1 ≤ f ∧ 12 ≤ l then some (l - 12) else none
  | _, _, _ => none
abbrev Call := MethodName × ByteArray × Option FieldType × List Slot × List Value
/-- returns and calls -/
def cstep (ws : Ws) (dn : Dn) (y : MethodName) (ret : Option FieldType) (ins : Instr) (len pc : Nat) (ls : List Slot) (st : List Value) (H : AHeap) : Option (Option Value ⊕ (Nat × List Slot × List Value × AHeap) ⊕ Call) :=
  match ins with
  | .ireturn => chk len 1 (match st, ret with
      | .int z :: _, some t => if t = .int ∨ t = .boolean ∨ t = .byte ∨ t = .char ∨ t = .short then some (.inl (some (.int (nar t z)))) else none
      | _, _ => none)
  | .lreturn => chk len 1 (match st, ret with
      | [.long z], some .long => some (.inl (some (.long z)))
      | _, _ => none)
  | .return_ => chk len 1 (match st, ret with
      | [], none => some (.inl none)
      | _, _ => none)
  | .invokestatic i => chk len 3 (match sR ws dn y i with
      | some (y', b, mx, r, na, sl) =>
        if na ≤ st.length ∧ wsum (st.drop na) ≤ sl ∧ (ent (st.take na).reverse).length ≤ mx then
          some (.inr (.inr (y', b, r, entry (st.take na).reverse mx, st.drop na)))
        else none
      | none => none)
  | .invokespecial i => chk len 3 (match oR ws dn y i with
      | some sl => (match st with
          | .ref _ :: r => if wsum r ≤ sl then some (.inr (.inl (pc + 3, ls, r, H))) else none
          | _ => none)
      | none => match nR ws dn y i with
        | some (y', b, mx, r, na, sl) =>
          (match st.drop na with
          | .ref a :: rest =>
            if wsum rest ≤ sl ∧ (ent (.ref a :: (st.take na).reverse)).length ≤ mx ∧ na ≤ st.length then
              some (.inr (.inr (y', b, r, entry (.ref a :: (st.take na).reverse) mx, rest)))
            else none
          | _ => none)
        | none => none)
  | .invokevirtual i => chk len 3 (match vR ws dn y i with
      | some (pv, y', b, mx, r, na, sl) =>
        (match st.drop na with
        | .ref a :: rest =>
          (match H[a]? with
          | some (.object C, _) =>
            if (pv = true ∨ C = y'.cls) ∧ wsum rest ≤ sl ∧ (ent (.ref a :: (st.take na).reverse)).length ≤ mx ∧ na ≤ st.length then
              some (.inr (.inr (y', b, r, entry (.ref a :: (st.take na).reverse) mx, rest)))
            else none
          | _ => none)
        | _ => none)
      | none => none)
  | _ => none
/-- what the machine does next: it returns, it steps, it calls -/
def act (ws : Ws) (dn : Dn) (k : Nat) (y : MethodName) (bytes : ByteArray) (ret : Option FieldType) (pc : Nat) (ls : List Slot) (st : List Value) (H : AHeap) : Option (Option Value ⊕ (Nat × List Slot × List Value × AHeap) ⊕ Call) :=
  match decode bytes pc with
  | .error _ => none
  | .ok (ins, len) =>
    match xstep ins len pc ls st with
    | some q => some (.inr (.inl (q.1, q.2.1, q.2.2, H)))
    | none => match hstep ws k y ins len pc st H with
      | some q => some (.inr (.inl (q.1, ls, q.2.1, q.2.2)))
      | none => cstep ws dn y ret ins len pc ls st H
def run (ws : Ws) (dn : Dn) (k : Nat) : Nat → MethodName → ByteArray → Option FieldType → Nat → List Slot → List Value → AHeap → Option (Option Value × AHeap)
  | 0, _, _, _, _, _, _, _ => none
  | n + 1, y, bytes, ret, pc, ls, st, H =>
    match act ws dn k y bytes ret pc ls st H with
    | none => none
    | some (.inl v) => some (v, H)
    | some (.inr (.inl (pc', ls', st', H'))) => run ws dn k n y bytes ret pc' ls' st' H'
    | some (.inr (.inr (y', b, r, en, rest))) =>
      match run ws dn k n y' b r 0 en [] H with
      | some (v, H1) => run ws dn k n y bytes ret (pc + 3) ls (v.toList ++ rest) H1
      | none => none
end Jvm.Own
namespace Jvm.Own
open Sem ClassFile Op Lib Jvm.Stand Jvm.Free Jvm.LawKit Jvm.RoadKit
/-! OWN 3: the abstract machine's plain steps are the machine's -/
def ren (f : Nat → Nat) : Value → Value
  | .ref a => .ref (f a)
  | v => v
def renS (f : Nat → Nat) : Slot → Slot
  | .val v => .val (ren f v)
  | s => s
abbrev fr (f : Nat → Nat) (m : MethodId) (pc : Nat) (ls : List Slot) (st : List Value) : JFrame := mkF m pc (ls.map (renS f)).toArray (st.map (ren f))
theorem ren_cat (f : Nat → Nat) (v : Value) : (ren f v).category = v.category := by cases v <;> rfl
theorem ren_isRef (f : Nat → Nat) (v : Value) : (ren f v).isRef = v.isRef := by cases v <;> rfl
theorem isI_int {v : Value} (h : isI v = true) : ∃ x, v = .int x := by cases v <;> first | exact ⟨_, rfl⟩ | cases h
theorem isL_long {v : Value} (h : isL v = true) : ∃ x, v = .long x := by cases v <;> first | exact ⟨_, rfl⟩ | cases h
theorem chk_some {α : Type} {a b : Nat} {x : Option α} {r : α} (h : chk a b x = some r) : a = b ∧ x = some r := by
  unfold chk at h
  split at h
  · exact ⟨by assumption, h⟩
  · cases h
theorem loc_get {f : Nat → Nat} {ls : List Slot} {i : Nat} {s : Slot} (h : ls[i]? = some s) : ((ls.map (renS f)).toArray)[i]? = some (renS f s) := by
  rw [List.getElem?_toArray, List.getElem?_map, h]; rfl
theorem setAt_ren (f : Nat → Nat) (l : Array Slot) (i : Nat) (x : Slot) : setAt (l.map (renS f)) i (renS f x) = (setAt l i x).map fun a => a.map (renS f) := by
  unfold setAt
  rw [Array.size_map]
  split
  · rw [Option.map_some, Array.map_setIfInBounds]
  · rfl
theorem storeSelf_ren (f : Nat → Nat) (l : Array Slot) (i : Nat) (v : Value) : storeSelf (l.map (renS f)) i (ren f v) = (storeSelf l i v).map fun a => a.map (renS f) := by
  have h0 : setAt (l.map (renS f)) i (.val (ren f v)) = _ := setAt_ren f l i (.val v)
  simp only [storeSelf, h0, ren_cat]
  cases setAt l i (.val v) with
  | none => rfl
  | some l1 =>
    simp only [Option.map_some, Option.bind_eq_bind, Option.bind_some, bind_pure_comp]
    split
    · rw [Array.getElem?_map]
      cases l1[i + 1]? with
      | none => rfl
      | some s =>
        simp only [Option.map_some, Option.bind_some]
        cases s with
        | unset => exact setAt_ren f l1 (i + 1) .second
        | second => exact setAt_ren f l1 (i + 1) .second
        | val w =>
          simp only [renS, ren_cat]
          split
          · have h1 : setAt (l1.map (renS f)) (i + 2) .unset = _ := setAt_ren f l1 (i + 2) .unset
            rw [h1]
            cases setAt l1 (i + 2) .unset with
            | none => rfl
            | some l2 => exact setAt_ren f l2 (i + 1) .second
          · exact setAt_ren f l1 (i + 1) .second
    · rfl
theorem storeLocals_ren (f : Nat → Nat) (l : Array Slot) (i : Nat) (v : Value) : storeLocals (l.map (renS f)) i (ren f v) = (storeLocals l i v).map fun a => a.map (renS f) := by
  simp only [storeLocals, Array.getElem?_map]
  cases l[i]? with
  | none => rfl
  | some s =>
    simp only [Option.map_some, Option.bind_eq_bind, Option.bind_some]
    cases s with
    | unset => exact storeSelf_ren f l i v
    | second =>
      have h1 : setAt (l.map (renS f)) (i - 1) .unset = _ := setAt_ren f l (i - 1) .unset
      simp only [renS, h1]
      cases setAt l (i - 1) .unset with
      | none => rfl
      | some l2 => exact storeSelf_ren f l2 i v
    | val w =>
      simp only [renS, ren_cat]
      split
      · have h1 : setAt (l.map (renS f)) (i + 1) .unset = _ := setAt_ren f l (i + 1) .unset
        rw [h1]
        cases setAt l (i + 1) .unset with
        | none => rfl
        | some l2 => exact storeSelf_ren f l2 i v
      · exact storeSelf_ren f l i v
theorem stl_ren {f : Nat → Nat} {ls l' : List Slot} {i : Nat} {v : Value} (h : stl ls i v = some l') : storeLocals (ls.map (renS f)).toArray i (ren f v) = some (l'.map (renS f)).toArray := by
  unfold stl at h
  obtain ⟨a, ha, rfl⟩ := Option.map_eq_some_iff.mp h
  have := storeLocals_ren f ls.toArray i v
  rw [ha] at this
  rw [← List.map_toArray, this]
  simp [← Array.toList_inj]
theorem setAt_size {l l' : Array Slot} {i : Nat} {x : Slot} (h : setAt l i x = some l') : l'.size = l.size := by
  unfold setAt at h
  split at h
  · cases h; simp
  · cases h
theorem storeSelf_size {l l' : Array Slot} {i : Nat} {v : Value} (h : storeSelf l i v = some l') : l'.size = l.size := by
  simp only [storeSelf, Option.bind_eq_bind, Option.bind_eq_some_iff] at h
  obtain ⟨l1, h1, h⟩ := h
  have e1 := setAt_size h1
  split at h
  · obtain ⟨s, -, h⟩ := Option.bind_eq_some_iff.mp h
    split at h
    · split at h
      · obtain ⟨l2, h2, h⟩ := Option.bind_eq_some_iff.mp h
        rw [setAt_size h, setAt_size h2, e1]
      · rw [setAt_size h, e1]
    · rw [setAt_size h, e1]
  · cases h; exact e1
theorem storeLocals_size {l l' : Array Slot} {i : Nat} {v : Value} (h : storeLocals l i v = some l') : l'.size = l.size := by
  simp only [storeLocals, Option.bind_eq_bind, Option.bind_eq_some_iff] at h
  obtain ⟨s, -, h⟩ := h
  split at h
  · obtain ⟨l2, h2, h⟩ := Option.bind_eq_some_iff.mp h
    rw [storeSelf_size h, setAt_size h2]
  · split at h
    · obtain ⟨l2, h2, h⟩ := Option.bind_eq_some_iff.mp h
      rw [storeSelf_size h, setAt_size h2]
    · exact storeSelf_size h
  · exact storeSelf_size h
theorem stl_size {ls l' : List Slot} {i : Nat} {v : Value} (h : stl ls i v = some l') : l'.length = ls.length := by
  unfold stl at h
  obtain ⟨a, ha, rfl⟩ := Option.map_eq_some_iff.mp h
  have := storeLocals_size ha
  simpa using this
theorem ldV_some {p : Value → Bool} {nx i : Nat} {ls : List Slot} {st : List Value} {q : Nat × List Slot × List Value} (h : ldV p nx i ls st = some q) : ∃ v, ls[i]? = some (.val v) ∧ p v = true ∧ q = (nx, ls, v :: st) := by
  unfold ldV at h
  split at h
  · rename_i v hv
    split at h
    · cases h; exact ⟨v, hv, by assumption, rfl⟩
    · cases h
  · cases h
theorem stV_some {p : Value → Bool} {nx i : Nat} {ls : List Slot} {st : List Value} {q : Nat × List Slot × List Value} (h : stV p nx i ls st = some q) : ∃ v r l', st = v :: r ∧ p v = true ∧ stl ls i v = some l' ∧ q = (nx, l', r) := by
  unfold stV at h
  split at h
  · split at h
    · obtain ⟨l', h1, h2⟩ := Option.map_eq_some_iff.mp h
      exact ⟨_, _, l', rfl, by assumption, h1, h2.symm⟩
    · cases h
  · cases h
theorem b2_some {f : Int32 → Int32 → Int32} {nx : Nat} {ls : List Slot} {st : List Value} {q : Nat × List Slot × List Value} (h : b2 f nx ls st = some q) : ∃ x y r, st = .int y :: .int x :: r ∧ q = (nx, ls, .int (f x y) :: r) := by
  unfold b2 at h
  split at h
  · cases h; exact ⟨_, _, _, rfl, rfl⟩
  · cases h
theorem d2_some {f : Int32 → Int32 → Int32} {nx : Nat} {ls : List Slot} {st : List Value} {q : Nat × List Slot × List Value} (h : d2 f nx ls st = some q) : ∃ x y r, st = .int y :: .int x :: r ∧ y ≠ 0 ∧ q = (nx, ls, .int (f x y) :: r) := by
  unfold d2 at h
  split at h
  · split at h
    · cases h
    · cases h; exact ⟨_, _, _, rfl, by assumption, rfl⟩
  · cases h
theorem u1_some {f : Int32 → Int32} {nx : Nat} {ls : List Slot} {st : List Value} {q : Nat × List Slot × List Value} (h : u1 f nx ls st = some q) : ∃ x r, st = .int x :: r ∧ q = (nx, ls, .int (f x) :: r) := by
  unfold u1 at h
  split at h
  · cases h; exact ⟨_, _, rfl, rfl⟩
  · cases h
theorem l2_some {f : Int64 → Int64 → Int64} {nx : Nat} {ls : List Slot} {st : List Value} {q : Nat × List Slot × List Value} (h : l2 f nx ls st = some q) : ∃ x y r, st = .long y :: .long x :: r ∧ q = (nx, ls, .long (f x y) :: r) := by
  unfold l2 at h
  split at h
  · cases h; exact ⟨_, _, _, rfl, rfl⟩
  · cases h
theorem lsh_some {f : Int64 → Int32 → Int64} {nx : Nat} {ls : List Slot} {st : List Value} {q : Nat × List Slot × List Value} (h : lsh f nx ls st = some q) : ∃ x y r, st = .int y :: .long x :: r ∧ q = (nx, ls, .long (f x y) :: r) := by
  unfold lsh at h
  split at h
  · cases h; exact ⟨_, _, _, rfl, rfl⟩
  · cases h
theorem jmp_some {pc q : Nat} {o : Int} (h : jmp pc o = some q) : 0 ≤ (pc : Int) + o ∧ ((pc : Int) + o).toNat = q := by
  unfold jmp at h
  split at h
  · cases h; exact ⟨by assumption, rfl⟩
  · cases h
theorem br_some {c : Bool} {pc : Nat} {o : Int} {ls : List Slot} {r : List Value} {q : Nat × List Slot × List Value} (h : br c pc o ls r = some q) : (c = true ∧ ∃ t, 0 ≤ (pc : Int) + o ∧ ((pc : Int) + o).toNat = t ∧ q = (t, ls, r)) ∨ (c = false ∧ q = (pc + 3, ls, r)) := by
  unfold br at h
  split at h
  · obtain ⟨t, h1, h2⟩ := Option.map_eq_some_iff.mp h
    obtain ⟨h3, h4⟩ := jmp_some h1
    exact Or.inl ⟨by assumption, t, h3, h4, h2.symm⟩
  · rename_i hc; cases h; exact Or.inr ⟨by simpa using hc, rfl⟩
section X
variable {tb : Tables} [Ours tb] {e : Env} {below : List Frame} {T target : State} {m : MethodId} {c : Code}
set_option maxHeartbeats 4000000 in
theorem xstep_sound (h : At T m c below) (hx : tb.exec = Jvm.exec) (f : Nat → Nat) {ins : Instr} {len pc : Nat} {ls : List Slot} {st : List Value} {q : Nat × List Slot × List Value}
    (hd : decode c.code pc = .ok (ins, len)) (hs : xstep ins len pc ls st = some q) (hr : Steps tb e below (T.setTop (fr f m q.1 q.2.1 q.2.2)) target) : Steps tb e below (T.setTop (fr f m pc ls st)) target := by
  unfold xstep at hs
  split at hs
  · obtain ⟨rfl, hs⟩ := chk_some hs; obtain ⟨v, h1, h2, rfl⟩ := ldV_some hs
    exact XS.aloadN h hx rfl hd (loc_get h1) (by rw [ren_isRef]; exact h2) hr
  · obtain ⟨rfl, hs⟩ := chk_some hs; obtain ⟨v, h1, h2, rfl⟩ := ldV_some hs
    exact XS.aload h hx rfl hd (loc_get h1) (by rw [ren_isRef]; exact h2) hr
  · obtain ⟨rfl, hs⟩ := chk_some hs; obtain ⟨v, h1, h2, rfl⟩ := ldV_some hs; obtain ⟨x, rfl⟩ := isI_int h2
    exact XS.iloadN h hx rfl hd (loc_get (f := f) h1) hr
  · obtain ⟨rfl, hs⟩ := chk_some hs; obtain ⟨v, h1, h2, rfl⟩ := ldV_some hs; obtain ⟨x, rfl⟩ := isI_int h2
    exact XS.iload h hx rfl hd (loc_get (f := f) h1) hr
  · obtain ⟨rfl, hs⟩ := chk_some hs; obtain ⟨v, h1, h2, rfl⟩ := ldV_some hs; obtain ⟨x, rfl⟩ := isL_long h2
    exact XT.lloadN h hx rfl hd (loc_get (f := f) h1) hr
  · obtain ⟨rfl, hs⟩ := chk_some hs; obtain ⟨v, h1, h2, rfl⟩ := ldV_some hs; obtain ⟨x, rfl⟩ := isL_long h2
    exact XT.lload h hx rfl hd (loc_get (f := f) h1) hr
  · obtain ⟨rfl, hs⟩ := chk_some hs; obtain ⟨v, r, l', rfl, h2, h3, rfl⟩ := stV_some hs
    exact XS.astoreN h hx rfl hd rfl (by rw [ren_isRef]; exact h2) (stl_ren h3) hr
  · obtain ⟨rfl, hs⟩ := chk_some hs; obtain ⟨v, r, l', rfl, h2, h3, rfl⟩ := stV_some hs
    exact XS.astore h hx rfl hd rfl (by rw [ren_isRef]; exact h2) (stl_ren h3) hr
  · obtain ⟨rfl, hs⟩ := chk_some hs; obtain ⟨v, r, l', rfl, h2, h3, rfl⟩ := stV_some hs; obtain ⟨x, rfl⟩ := isI_int h2
    exact XS.istoreN h hx rfl hd rfl (stl_ren (f := f) h3) hr
  · obtain ⟨rfl, hs⟩ := chk_some hs; obtain ⟨v, r, l', rfl, h2, h3, rfl⟩ := stV_some hs; obtain ⟨x, rfl⟩ := isI_int h2
    exact XS.istore h hx rfl hd rfl (stl_ren (f := f) h3) hr
  · obtain ⟨rfl, hs⟩ := chk_some hs; obtain ⟨v, r, l', rfl, h2, h3, rfl⟩ := stV_some hs; obtain ⟨x, rfl⟩ := isL_long h2
    exact XT.lstoreN h hx rfl hd rfl (stl_ren (f := f) h3) hr
  · obtain ⟨rfl, hs⟩ := chk_some hs; obtain ⟨v, r, l', rfl, h2, h3, rfl⟩ := stV_some hs; obtain ⟨x, rfl⟩ := isL_long h2
    exact XT.lstore h hx rfl hd rfl (stl_ren (f := f) h3) hr
  · obtain ⟨rfl, hs⟩ := chk_some hs; cases hs
    exact XS.iconst h hx rfl hd hr
  · obtain ⟨rfl, hs⟩ := chk_some hs; cases hs
    exact XS.bipush h hx rfl hd hr
  · obtain ⟨rfl, hs⟩ := chk_some hs; cases hs
    exact XS.sipush h hx rfl hd hr
  · obtain ⟨rfl, hs⟩ := chk_some hs; cases hs
    exact XT.lconst h hx rfl hd hr
  · obtain ⟨rfl, hs⟩ := chk_some hs; obtain ⟨x, y, r, rfl, rfl⟩ := b2_some hs
    exact XS.iadd h hx rfl hd rfl hr
  · obtain ⟨rfl, hs⟩ := chk_some hs; obtain ⟨x, y, r, rfl, rfl⟩ := b2_some hs
    exact XS.isub h hx rfl hd rfl hr
  · obtain ⟨rfl, hs⟩ := chk_some hs; obtain ⟨x, y, r, rfl, rfl⟩ := b2_some hs
    exact XS.imul h hx rfl hd rfl hr
  · obtain ⟨rfl, hs⟩ := chk_some hs; obtain ⟨x, y, r, rfl, rfl⟩ := b2_some hs
    exact XS.iand h hx rfl hd rfl hr
  · obtain ⟨rfl, hs⟩ := chk_some hs; obtain ⟨x, y, r, rfl, rfl⟩ := b2_some hs
    exact XT.ior h hx rfl hd rfl hr
  · obtain ⟨rfl, hs⟩ := chk_some hs; obtain ⟨x, y, r, rfl, rfl⟩ := b2_some hs
    exact XT.ixor h hx rfl hd rfl hr
  · obtain ⟨rfl, hs⟩ := chk_some hs; obtain ⟨x, y, r, rfl, rfl⟩ := b2_some hs
    exact XT.ishl h hx rfl hd rfl hr
  · obtain ⟨rfl, hs⟩ := chk_some hs; obtain ⟨x, y, r, rfl, rfl⟩ := b2_some hs
    exact XT.ishr h hx rfl hd rfl hr
  · obtain ⟨rfl, hs⟩ := chk_some hs; obtain ⟨x, y, r, rfl, rfl⟩ := b2_some hs
    exact XT.iushr h hx rfl hd rfl hr
  · obtain ⟨rfl, hs⟩ := chk_some hs; obtain ⟨x, y, r, rfl, h2, rfl⟩ := d2_some hs
    exact XS.idiv h hx rfl hd rfl h2 hr
  · obtain ⟨rfl, hs⟩ := chk_some hs; obtain ⟨x, y, r, rfl, h2, rfl⟩ := d2_some hs
    refine XS.irem h hx rfl hd rfl h2 ?_
    have q : x - x / y * y = x % y := irem_eq_mod x y
    rw [q]; exact hr
  · obtain ⟨rfl, hs⟩ := chk_some hs; obtain ⟨x, r, rfl, rfl⟩ := u1_some hs
    exact XS.ineg h hx rfl hd rfl hr
  · obtain ⟨rfl, hs⟩ := chk_some hs; obtain ⟨x, r, rfl, rfl⟩ := u1_some hs
    exact XT.i2b h hx rfl hd rfl hr
  · obtain ⟨rfl, hs⟩ := chk_some hs; obtain ⟨x, r, rfl, rfl⟩ := u1_some hs
    exact XT.i2c h hx rfl hd rfl hr
  · obtain ⟨rfl, hs⟩ := chk_some hs; obtain ⟨x, y, r, rfl, rfl⟩ := l2_some hs
    exact XT.ladd h hx rfl hd rfl hr
  · obtain ⟨rfl, hs⟩ := chk_some hs; obtain ⟨x, y, r, rfl, rfl⟩ := l2_some hs
    exact XT.lsub h hx rfl hd rfl hr
  · obtain ⟨rfl, hs⟩ := chk_some hs; obtain ⟨x, y, r, rfl, rfl⟩ := l2_some hs
    exact XT.lmul h hx rfl hd rfl hr
  · obtain ⟨rfl, hs⟩ := chk_some hs; obtain ⟨x, y, r, rfl, rfl⟩ := l2_some hs
    exact XT.land h hx rfl hd rfl hr
  · obtain ⟨rfl, hs⟩ := chk_some hs; obtain ⟨x, y, r, rfl, rfl⟩ := l2_some hs
    exact XT.lor h hx rfl hd rfl hr
  · obtain ⟨rfl, hs⟩ := chk_some hs; obtain ⟨x, y, r, rfl, rfl⟩ := l2_some hs
    exact XT.lxor h hx rfl hd rfl hr
  · obtain ⟨rfl, hs⟩ := chk_some hs; obtain ⟨x, y, r, rfl, rfl⟩ := lsh_some hs
    exact XT.lshl h hx rfl hd rfl hr
  · obtain ⟨rfl, hs⟩ := chk_some hs; obtain ⟨x, y, r, rfl, rfl⟩ := lsh_some hs
    exact XT.lshr h hx rfl hd rfl hr
  · obtain ⟨rfl, hs⟩ := chk_some hs; obtain ⟨x, y, r, rfl, rfl⟩ := lsh_some hs
    exact XT.lushr h hx rfl hd rfl hr
  · obtain ⟨rfl, hs⟩ := chk_some hs
    split at hs
    · cases hs; exact XT.lneg h hx rfl hd rfl hr
    · cases hs
  · obtain ⟨rfl, hs⟩ := chk_some hs
    split at hs
    · cases hs; exact XT.i2l h hx rfl hd rfl hr
    · cases hs
  · obtain ⟨rfl, hs⟩ := chk_some hs
    split at hs
    · cases hs; exact XT.l2i h hx rfl hd rfl hr
    · cases hs
  · obtain ⟨rfl, hs⟩ := chk_some hs
    split at hs
    · cases hs; exact XT.lcmp h hx rfl hd rfl hr
    · cases hs
  · obtain ⟨rfl, hs⟩ := chk_some hs
    split at hs
    · rename_i x h1
      obtain ⟨l', h2, rfl⟩ := Option.map_eq_some_iff.mp hs
      exact XS.iinc h hx rfl hd (loc_get (f := f) h1) (stl_ren (f := f) h2) hr
    · cases hs
  · obtain ⟨rfl, hs⟩ := chk_some hs
    split at hs
    · split at hs
      · rename_i hc; cases hs; exact XS.dup h hx rfl hd rfl (by rw [ren_cat]; exact hc) hr
      · cases hs
    · cases hs
  · obtain ⟨rfl, hs⟩ := chk_some hs
    split at hs
    · cases hs; exact XT.dup2L h hx rfl hd rfl hr
    · split at hs
      · rename_i hc; cases hs; exact XT.dup2 h hx rfl hd rfl (by rw [ren_cat]; exact hc.1) (by rw [ren_cat]; exact hc.2) hr
      · cases hs
    · cases hs
  · obtain ⟨rfl, hs⟩ := chk_some hs
    split at hs
    · split at hs
      · rename_i hc; cases hs; exact XT.pop h hx rfl hd rfl (by rw [ren_cat]; exact hc) hr
      · cases hs
    · cases hs
  · obtain ⟨rfl, hs⟩ := chk_some hs
    obtain ⟨t, h1, rfl⟩ := Option.map_eq_some_iff.mp hs
    obtain ⟨h2, h3⟩ := jmp_some h1
    exact XS.goto h hx rfl rfl hd h2 h3 hr
  · obtain ⟨rfl, hs⟩ := chk_some hs
    split at hs
    · rcases br_some hs with ⟨hc, t, h1, h2, rfl⟩ | ⟨hc, rfl⟩
      · exact XS.ifYes h hx rfl rfl hd rfl hc h1 h2 hr
      · exact XS.ifNo h hx rfl hd rfl hc hr
    · cases hs
  · obtain ⟨rfl, hs⟩ := chk_some hs
    split at hs
    · rcases br_some hs with ⟨hc, t, h1, h2, rfl⟩ | ⟨hc, rfl⟩
      · exact XS.icmpYes h hx rfl rfl hd rfl hc h1 h2 hr
      · exact XS.icmpNo h hx rfl hd rfl hc hr
    · cases hs
  · unfold sw at hs
    split at hs
    · split at hs
      · rename_i hc
        obtain ⟨t, h1, rfl⟩ := Option.map_eq_some_iff.mp hs
        obtain ⟨h2, h3⟩ := jmp_some h1
        exact XS.tswOut h hx rfl rfl hd rfl hc h2 h3 hr
      · rename_i hc
        split at hs
        · rename_i o ho
          obtain ⟨t, h1, rfl⟩ := Option.map_eq_some_iff.mp hs
          obtain ⟨h2, h3⟩ := jmp_some h1
          exact XS.tswIn h hx rfl rfl hd rfl hc ho h2 h3 hr
        · cases hs
    · cases hs
  · cases hs
end X
theorem xstep_size {ins : Instr} {len pc : Nat} {ls : List Slot} {st : List Value} {q : Nat × List Slot × List Value} (hs : xstep ins len pc ls st = some q) : q.2.1.length = ls.length := by
  unfold xstep at hs
  split at hs
  all_goals first
    | (obtain ⟨rfl, hs⟩ := chk_some hs; obtain ⟨v, h1, h2, rfl⟩ := ldV_some hs; rfl)
    | (obtain ⟨rfl, hs⟩ := chk_some hs; obtain ⟨v, r, l', rfl, h2, h3, rfl⟩ := stV_some hs; exact stl_size h3)
    | (obtain ⟨rfl, hs⟩ := chk_some hs; cases hs; rfl)
    | (obtain ⟨rfl, hs⟩ := chk_some hs; obtain ⟨x, y, r, rfl, rfl⟩ := b2_some hs; rfl)
    | (obtain ⟨rfl, hs⟩ := chk_some hs; obtain ⟨x, y, r, rfl, h2, rfl⟩ := d2_some hs; rfl)
    | (obtain ⟨rfl, hs⟩ := chk_some hs; obtain ⟨x, r, rfl, rfl⟩ := u1_some hs; rfl)
    | (obtain ⟨rfl, hs⟩ := chk_some hs; obtain ⟨x, y, r, rfl, rfl⟩ := l2_some hs; rfl)
    | (obtain ⟨rfl, hs⟩ := chk_some hs; obtain ⟨x, y, r, rfl, rfl⟩ := lsh_some hs; rfl)
    | (obtain ⟨rfl, hs⟩ := chk_some hs; split at hs <;> first | (cases hs; rfl) | (cases hs; done))
    | (obtain ⟨rfl, hs⟩ := chk_some hs; split at hs <;> first | (obtain ⟨l', h2, rfl⟩ := Option.map_eq_some_iff.mp hs; exact stl_size h2) | (cases hs; done))
    | (obtain ⟨rfl, hs⟩ := chk_some hs; split at hs <;> first | (split at hs <;> first | (cases hs; rfl) | (cases hs; done)) | (cases hs; rfl) | (cases hs; done))
    | (obtain ⟨rfl, hs⟩ := chk_some hs; obtain ⟨t, h1, rfl⟩ := Option.map_eq_some_iff.mp hs; rfl)
    | (obtain ⟨rfl, hs⟩ := chk_some hs; split at hs <;> first | (rcases br_some hs with ⟨hc, t, h1, h2, rfl⟩ | ⟨hc, rfl⟩ <;> rfl) | (cases hs; done))
    | (unfold sw at hs; split at hs <;> first | (cases hs; done) | (split at hs <;> first | (obtain ⟨t, h1, rfl⟩ := Option.map_eq_some_iff.mp hs; rfl) | (split at hs <;> first | (obtain ⟨t, h1, rfl⟩ := Option.map_eq_some_iff.mp hs; rfl) | (cases hs; done))))
    | (cases hs; done)
end Jvm.Own
namespace Jvm.Own
open Sem ClassFile Op Lib Jvm.Stand Jvm.Free Jvm.LawKit Jvm.RoadKit
/-! OWN 4: the heap's steps -/
def adr (k sa n0 i : Nat) : Nat := if i < k then sa else n0 + (i - k)
def SimO (Z : State) (ws : Ws) (f : Nat → Nat) (h : Heap) (a : Addr) : FieldType × List Value → Prop
  | (.object C, vs) => Exa Z h a C ∧ ∀ n t j, fidx ws C n t = some j → ∃ v, vs[j]? = some v ∧ Fld Z h a C n t (ren f v)
  | (.array ty, vs) => ∃ c : Cell, Arr Z h a c ty ∧ c.slots = (vs.map (ren f)).toArray
  | _ => False
def Sim (Z : State) (ws : Ws) (k sa n0 : Nat) (H : AHeap) (h : Heap) : Prop :=
  h.size = n0 + (H.length - k) ∧ k ≤ H.length ∧ k ≤ 1 ∧ (1 ≤ k → sa < n0) ∧ ∀ i o, H[i]? = some o → SimO Z ws (adr k sa n0) h (adr k sa n0 i) o
def cost (ws : Ws) : FieldType × List Value → Nat
  | (.object C, _) => (rInst ws C).getD 0
  | (_, vs) => vs.length
def tot (ws : Ws) (H : AHeap) : Nat := (H.map (cost ws)).sum
theorem adr_inj {k sa n0 i j : Nat} (hk : k ≤ 1) (hs : 1 ≤ k → sa < n0) (e : adr k sa n0 i = adr k sa n0 j) : i = j := by
  unfold adr at e; split at e <;> split at e <;> omega
theorem adr_ge {k sa n0 a : Nat} (h : k ≤ a) : n0 ≤ adr k sa n0 a := by
  unfold adr; rw [if_neg (by omega)]; omega
theorem tot_app (ws : Ws) (H : AHeap) (o : FieldType × List Value) : tot ws (H ++ [o]) = tot ws H + cost ws o := by simp [tot]
theorem tot_set {ws : Ws} : ∀ {H : AHeap} {a : Nat} {o o' : FieldType × List Value}, H[a]? = some o → cost ws o' = cost ws o → tot ws (H.set a o') = tot ws H
  | [], _, _, _, h, _ => by cases h
  | x :: r, 0, o, o', h, e => by
    simp only [List.getElem?_cons_zero, Option.some.injEq] at h; subst h
    simp [tot, e]
  | x :: r, a + 1, o, o', h, e => by
    have := tot_set (ws := ws) (H := r) (a := a) (o := o) (o' := o') (by simpa using h) e
    simp only [tot, List.set_cons_succ, List.map_cons, List.sum_cons] at this ⊢
    rw [this]
theorem ren_dflt (f : Nat → Nat) (ty : FieldType) : ren f (defaultValue ty) = defaultValue ty := by cases ty <;> rfl
section Facts
variable {Z : State} {ws : Ws} {f : Nat → Nat} {h h' : Heap} {a b : Addr} {o : FieldType × List Value} {sl : Nat} {v : Value}
theorem SimO.ext (E : Ext h h') (S : SimO Z ws f h a o) : SimO Z ws f h' a o := by
  unfold SimO at S ⊢
  split at S
  · exact ⟨S.1.ext E, fun n t j q => by obtain ⟨v, h1, h2⟩ := S.2 n t j q; exact ⟨v, h1, h2.ext E⟩⟩
  · obtain ⟨c, h1, h2⟩ := S; exact ⟨c, h1.ext E, h2⟩
  · exact S.elim
theorem SimO.other (W : Wr h h' b sl v) (ne : a ≠ b) (S : SimO Z ws f h a o) : SimO Z ws f h' a o := by
  unfold SimO at S ⊢
  split at S
  · exact ⟨S.1.wr W, fun n t j q => by obtain ⟨v, h1, h2⟩ := S.2 n t j q; exact ⟨v, h1, h2.other W (Or.inl ne)⟩⟩
  · obtain ⟨c, h1, h2⟩ := S; exact ⟨c, h1.other W ne, h2⟩
  · exact S.elim
theorem Sim.push {k sa n0 : Nat} {H : AHeap} (S : Sim Z ws k sa n0 H h) (E : Ext h h') (hz : h'.size = h.size + 1) (O : SimO Z ws (adr k sa n0) h' h.size o) : Sim Z ws k sa n0 (H ++ [o]) h' := by
  obtain ⟨h1, h2, h3, h4, h5⟩ := S
  refine ⟨by rw [hz, h1, List.length_append, List.length_singleton]; omega, by rw [List.length_append]; omega, h3, h4, fun i o' q => ?_⟩
  rcases Nat.lt_trichotomy i H.length with g | g | g
  · rw [List.getElem?_append_left g] at q; exact (h5 i o' q).ext E
  · subst g
    rw [List.getElem?_append_right (Nat.le_refl _), Nat.sub_self] at q
    cases q
    have e : adr k sa n0 H.length = h.size := by unfold adr; rw [if_neg (by omega), h1]
    rw [e]; exact O
  · rw [List.getElem?_eq_none (by simp; omega)] at q; cases q
theorem Sim.next {k sa n0 : Nat} {H : AHeap} (S : Sim Z ws k sa n0 H h) : h.size = adr k sa n0 H.length := by
  obtain ⟨h1, h2, -⟩ := S
  unfold adr; rw [if_neg (by omega), h1]
theorem Wr.upd {k sa n0 i : Nat} {H : AHeap} {o' : FieldType × List Value} (S : Sim Z ws k sa n0 H h) (W : Wr h h' (adr k sa n0 i) sl v) (O : SimO Z ws (adr k sa n0) h' (adr k sa n0 i) o') : Sim Z ws k sa n0 (H.set i o') h' := by
  obtain ⟨h1, h2, h3, h4, h5⟩ := S
  refine ⟨by rw [W.size, h1, List.length_set], by rw [List.length_set]; exact h2, h3, h4, fun j q hq => ?_⟩
  by_cases e : i = j
  · subst e
    rw [List.getElem?_set_self' ] at hq
    cases hi : H[i]? with
    | none => rw [hi] at hq; cases hq
    | some x => rw [hi] at hq; cases hq; exact O
  · rw [List.getElem?_set_ne e] at hq
    exact (h5 j q hq).other W fun g => e (adr_inj h3 h4 g).symm
end Facts
theorem putv_ok {ty : FieldType} {v v' : Value} (f : Nat → Nat) (h : putv ty v = some v') : narrow ty (ren f v) = ren f v' ∧ fits ty (ren f v') = true := by
  unfold putv at h
  split at h
  · cases h; exact ⟨rfl, rfl⟩
  · cases h; exact ⟨rfl, fits_nar_bool _⟩
  · cases h; exact ⟨rfl, fits_nar_byte _⟩
  · cases h; exact ⟨rfl, fits_nar_char _⟩
  · cases h; exact ⟨rfl, fits_nar_short _⟩
  · cases h; exact ⟨rfl, rfl⟩
  · cases h; exact ⟨rfl, rfl⟩
  · cases h
theorem size_set (c : Cell) (j : Nat) (v : Value) (f : Nat → Nat) {vs : List Value} {v' : Value} (e : c.slots = (vs.map (ren f)).toArray) (q : v = ren f v') : (c.setSlot j v).slots = ((vs.set j v').map (ren f)).toArray := by
  subst q
  show c.slots.setIfInBounds j (ren f v') = _
  rw [e, List.setIfInBounds_toArray, List.map_set]
section H
variable {p : Program} {l : Launch} {e : Env} {R : Room} {s : State} {m : MethodId} {args : Array Value} {below : List Frame} {meth : Method} {c : Code} {T : State} {locs : List Loc} {cells slots : Nat}
  {Z : State} {a0 : Array Value} {ws : Ws} {k sa n0 : Nat} {y : MethodName} {pc : Nat} {ls : List Slot} {st : List Value} {H : AHeap}
/-- the point behind one step -/
def Beh (p : Program) (l : Launch) (e : Env) (R : Room) (s : State) (m : MethodId) (args : Array Value) (below : List Frame) (meth : Method) (c : Code) (T : State) (Z : State) (ws : Ws) (k sa n0 cells slots : Nat) (H : AHeap) (g : JFrame) (pc' : Nat) (ls' : List Slot) (st' : List Value) (H' : AHeap) : Prop :=
  ∃ T' locs', Stand p l e R s m args below meth c T' locs' (cells + (H'.length - H.length)) (slots + (tot ws H' - tot ws H)) ∧ Sim Z ws k sa n0 H' T'.heap ∧ Fr n0 locs' ∧
    ∀ target, Steps p.tables e below (T'.setTop (fr (adr k sa n0) m pc' ls' st')) target → Steps p.tables e below (T.setTop g) target
theorem Beh.stay {g : JFrame} {pc' : Nat} {st' : List Value} {T' : State} (X : Stand p l e R s m args below meth c T' locs cells slots) (S : Sim Z ws k sa n0 H T'.heap) (N : Fr n0 locs)
    (h : ∀ target, Steps p.tables e below (T'.setTop (fr (adr k sa n0) m pc' ls st')) target → Steps p.tables e below (T.setTop g) target) : Beh p l e R s m args below meth c T Z ws k sa n0 cells slots H g pc' ls st' H :=
  ⟨T', locs, by rw [Nat.sub_self, Nat.sub_self]; exact X, S, N, h⟩
theorem hGet_sound (hw : ∀ d ∈ ws, d.before a0 Z = true) (X : Stand p l e R s m args below meth c T locs cells slots) (hx : p.tables.exec = Jvm.exec) (hZ : Z.Warmed39 s.vm) (hown : s.vm.findClass y.cls = some m.cls)
    {i : Nat} (hd : decode c.code pc = .ok (.getfield i, 3)) {q : Nat × List Value × AHeap} (hs : hGet ws y.cls i pc H st = some q) (S : Sim Z ws k sa n0 H T.heap) (N : Fr n0 locs) :
    Beh p l e R s m args below meth c T Z ws k sa n0 cells slots H (fr (adr k sa n0) m pc ls st) q.1 ls q.2.1 q.2.2 := by
  unfold hGet at hs
  split at hs
  · rename_i a r
    split at hs
    · rename_i C j C' vs q1 q2
      split at hs
      · rename_i hC; subst hC
        obtain ⟨v, hv, rfl⟩ := Option.map_eq_some_iff.mp hs
        obtain ⟨n, t, r1, r2⟩ := gfR_some q1
        obtain ⟨v', hv', F⟩ := (S.2.2.2.2 a _ q2).2 n t j r2
        cases hv.symm.trans hv'
        obtain ⟨T', X', e', st'⟩ := getF X hx hZ hown (host := "") (Or.inl (hw _ (rFld_mem r1))) Via.refl rfl F (g := fr (adr k sa n0) m pc ls (.ref a :: r)) rfl rfl hd
        exact Beh.stay X' (by rw [e']; exact S) N st'
      · cases hs
    · cases hs
  · cases hs
theorem hPut_sound (hw : ∀ d ∈ ws, d.before a0 Z = true) (X : Stand p l e R s m args below meth c T locs cells slots) (hx : p.tables.exec = Jvm.exec) (hZ : Z.Warmed39 s.vm) (hown : s.vm.findClass y.cls = some m.cls) (hnm : meth.name = y.name)
    {i : Nat} (hd : decode c.code pc = .ok (.putfield i, 3)) {q : Nat × List Value × AHeap} (hs : hPut ws k y.cls y.name i pc H st = some q) (S : Sim Z ws k sa n0 H T.heap) (N : Fr n0 locs) :
    Beh p l e R s m args below meth c T Z ws k sa n0 cells slots H (fr (adr k sa n0) m pc ls st) q.1 ls q.2.1 q.2.2 := by
  unfold hPut at hs
  split at hs
  · rename_i v a r
    split at hs
    · rename_i C j ty C' vs q1 q2
      split at hs
      · rename_i hC; obtain ⟨rfl, hk, hj⟩ := hC
        obtain ⟨v', hv, rfl⟩ := Option.map_eq_some_iff.mp hs
        obtain ⟨n, t, r1, r2, r3, r4, ⟨ki, r5⟩, r6⟩ := pfR_some q1
        have SO := S.2.2.2.2 a _ q2
        obtain ⟨w, hw', F⟩ := SO.2 n t j r2
        obtain ⟨g1, g2⟩ := putv_ok (adr k sa n0) hv
        obtain ⟨T', h', X', e', W, st'⟩ := putFN X hx hZ hown (hw _ (rFld_mem r1)) Via.refl rfl F SO.1 (r4.imp (fun q => hw _ q) fun q => ⟨hw _ q.1, q.2.1, hnm.trans q.2.2⟩) (hw _ r5) r3 g1 g2 (g := fr (adr k sa n0) m pc ls (v :: .ref a :: r)) rfl rfl hd
        have LL : ∀ {n' t' : String}, (n', t') ∈ olay ws C → Laid Z a0 C C n' t' := fun q => (lay_mem q).1.imp (fun q => hw _ q) (fun q => hw _ q)
        have O' : SimO Z ws (adr k sa n0) h' (adr k sa n0 a) (.object C, vs.set j v') := by
          refine ⟨SO.1.wr W, fun n' t' j' q' => ?_⟩
          obtain ⟨u, hu, F'⟩ := SO.2 n' t' j' q'
          by_cases ej : j = j'
          · subst ej
            obtain ⟨rfl, rfl⟩ := fidx_inj r2 q'
            exact ⟨v', by rw [List.getElem?_set_self hj], F.same W⟩
          · refine ⟨u, by rw [List.getElem?_set_ne ej]; exact hu, F'.other W (Or.inr ?_)⟩
            obtain ⟨-, ty', p'⟩ := lay_mem (fidx_mem q')
            refine slot_ne (LL (fidx_mem q')) (LL (fidx_mem r2)) (fun en => ?_) p' r3
            rcases r6 n' t' (fidx_mem q') with g | g
            · exact g en
            · subst en g; rw [r2] at q'; exact ej (Option.some.inj q')
        refine ⟨T', _, ?_, by rw [e']; exact Wr.upd S W O', Fr.snoc X' N (adr_ge hk), st'⟩
        show Stand p l e R s m args below meth c T' _ (cells + ((H.set a (.object C, vs.set j v')).length - H.length)) (slots + (tot ws (H.set a (.object C, vs.set j v')) - tot ws H))
        rw [List.length_set, tot_set (o := (.object C, vs)) (o' := (.object C, vs.set j v')) q2 rfl, Nat.sub_self, Nat.sub_self]
        exact X'
      · cases hs
    · cases hs
  · cases hs
theorem hNew_sound (hw : ∀ d ∈ ws, d.before a0 Z = true) (X : Stand p l e R s m args below meth c T locs cells slots) (hx : p.tables.exec = Jvm.exec) (hZ : Z.Warmed39 s.vm) (hown : s.vm.findClass y.cls = some m.cls)
    {i : Nat} (hd : decode c.code pc = .ok (.new i, 3)) {q : Nat × List Value × AHeap} (hs : hNew ws y.cls i pc H st = some q) (S : Sim Z ws k sa n0 H T.heap) (N : Fr n0 locs)
    (hc : cells + (q.2.2.length - H.length) ≤ R.cells) (hl : slots + (tot ws q.2.2 - tot ws H) ≤ R.slots) (hz0 : T.heap.size = s.heap.size + cells) :
    Beh p l e R s m args below meth c T Z ws k sa n0 cells slots H (fr (adr k sa n0) m pc ls st) q.1 ls q.2.1 q.2.2 := by
  unfold hNew at hs
  split at hs
  · rename_i C q1
    split at hs
    · rename_i g; cases hs
      obtain ⟨ki, hki⟩ := Option.isSome_iff_exists.mp g.1
      have ec : (H ++ [(FieldType.object C, (olay ws C).map dflt)]).length - H.length = 1 := by simp
      have es : tot ws (H ++ [(FieldType.object C, (olay ws C).map dflt)]) - tot ws H = ki := by
        rw [tot_app]; simp [cost, hki]
      dsimp only at hc hl ⊢
      rw [ec] at hc; rw [es] at hl
      have hz := S.next
      obtain ⟨T', h', X', e', E, A, D, -, st'⟩ := newO X hx hZ hown (hw _ (rCls_mem q1)) (hw _ (rInst_mem hki)) (hw _ (hasInit_mem g.2)) rfl (g := fr (adr k sa n0) m pc ls st) rfl hd hc hl
      have hz' : h'.size = T.heap.size + 1 := by
        have u1 := X'.heapSize
        have a1 : (T.heap.size : Nat) < h'.size := A.lt
        rw [e'] at u1
        omega
      refine ⟨T', locs, by rw [ec, es]; exact X', ?_, N, ?_⟩
      · rw [e']
        refine S.push E hz' ⟨A, fun n t j q => ?_⟩
        have hm := fidx_mem q
        obtain ⟨q2, ty, q3⟩ := lay_mem hm
        refine ⟨dflt (n, t), by rw [List.getElem?_map, idx_get q]; rfl, ?_⟩
        have F := D (O := C) (nm := n) (d := t) (q2.imp (fun q => hw _ q) (fun q => hw _ q)) q3
        have e3 : ren (adr k sa n0) (dflt (n, t)) = defaultValue ty := by simp only [dflt, q3, ren_dflt]
        rw [e3]; exact F
      · intro target ht
        rw [hz] at st'
        exact st' target ht
    · cases hs
  · cases hs
theorem hNewA_sound (hw : ∀ d ∈ ws, d.before a0 Z = true) (X : Stand p l e R s m args below meth c T locs cells slots) (hx : p.tables.exec = Jvm.exec) (hZ : Z.Warmed39 s.vm)
    {aty : ArrayType} (hd : decode c.code pc = .ok (.newarray aty, 2)) {q : Nat × List Value × AHeap} (hs : hNewA ws aty pc H st = some q) (S : Sim Z ws k sa n0 H T.heap) (N : Fr n0 locs)
    (hc : cells + (q.2.2.length - H.length) ≤ R.cells) (hl : slots + (tot ws q.2.2 - tot ws H) ≤ R.slots) (hz0 : T.heap.size = s.heap.size + cells) :
    Beh p l e R s m args below meth c T Z ws k sa n0 cells slots H (fr (adr k sa n0) m pc ls st) q.1 ls q.2.1 q.2.2 := by
  unfold hNewA at hs
  split at hs
  · rename_i n r
    split at hs
    · rename_i g; cases hs
      obtain ⟨g1, g2, g3⟩ := g
      have ec : (H ++ [(FieldType.array (newarray.typeOf aty), List.replicate n.toNatClampNeg (defaultValue (newarray.typeOf aty)))]).length - H.length = 1 := by simp
      have es : tot ws (H ++ [(FieldType.array (newarray.typeOf aty), List.replicate n.toNatClampNeg (defaultValue (newarray.typeOf aty)))]) - tot ws H = n.toNatClampNeg := by
        rw [tot_app]; simp [cost]
      dsimp only at hc hl ⊢
      rw [ec] at hc; rw [es] at hl
      have hz := S.next
      obtain ⟨T', h', cA, X', e', E, A, st'⟩ := newP X hx hZ (hw _ (hasArr_mem g1)) rfl (g := fr (adr k sa n0) m pc ls (.int n :: r)) rfl hd rfl g2 (cap := n.toNatClampNeg) (Nat.le_refl _) g3 hc hl
      have hz' : h'.size = T.heap.size + 1 := by
        have u1 := X'.heapSize
        have a1 : (T.heap.size : Nat) < h'.size := A.lt
        rw [e'] at u1
        omega
      refine ⟨T', locs, by rw [ec, es]; exact X', ?_, N, ?_⟩
      · rw [e']
        refine S.push E hz' ⟨_, A, ?_⟩
        simp [newA, ren_dflt]
      · intro target ht
        rw [hz] at st'
        exact st' target ht
    · cases hs
  · cases hs
theorem hLd_some {ok : FieldType → Bool} {q : Nat × List Value × AHeap} (hs : hLd ok pc H st = some q) : ∃ j a r ty vs v, st = .int j :: .ref a :: r ∧ H[a]? = some (.array ty, vs) ∧ ok ty = true ∧ ¬ j < 0 ∧ vs[j.toNatClampNeg]? = some v ∧ q = (pc + 1, v :: r, H) := by
  unfold hLd at hs
  split at hs
  · split at hs
    · split at hs
      · rename_i g
        obtain ⟨v, h1, h2⟩ := Option.map_eq_some_iff.mp hs
        exact ⟨_, _, _, _, _, v, rfl, by assumption, g.1, g.2, h1, h2.symm⟩
      · cases hs
    · cases hs
  · cases hs
theorem hSt_some {ok : FieldType → Bool} {q : Nat × List Value × AHeap} (hs : hSt ok k pc H st = some q) : ∃ v j a r ty vs v', st = v :: .int j :: .ref a :: r ∧ H[a]? = some (.array ty, vs) ∧ ok ty = true ∧ k ≤ a ∧ ¬ j < 0 ∧ j.toNatClampNeg < vs.length ∧ putv ty v = some v' ∧ q = (pc + 1, r, H.set a (.array ty, vs.set j.toNatClampNeg v')) := by
  unfold hSt at hs
  split at hs
  · split at hs
    · split at hs
      · rename_i g
        obtain ⟨v, h1, h2⟩ := Option.map_eq_some_iff.mp hs
        exact ⟨_, _, _, _, _, _, v, rfl, by assumption, g.1, g.2.1, g.2.2.1, g.2.2.2, h1, h2.symm⟩
      · cases hs
    · cases hs
  · cases hs
theorem hLen_some {q : Nat × List Value × AHeap} (hs : hLen pc H st = some q) : ∃ a r ty vs, st = .ref a :: r ∧ H[a]? = some (.array ty, vs) ∧ q = (pc + 1, .int vs.length.toInt32 :: r, H) := by
  unfold hLen at hs
  split at hs
  · split at hs
    · cases hs; exact ⟨_, _, _, _, rfl, by assumption, rfl⟩
    · cases hs
  · cases hs
/-- behind a store into an array -/
theorem st_beh {T' : State} {h' : Heap} {a j : Nat} {ty : FieldType} {vs : List Value} {v' : Value} {r : List Value} {g : JFrame} (X' : Stand p l e R s m args below meth c T' (locs ++ [⟨adr k sa n0 a, j⟩]) cells slots) (e' : T'.heap = h') (W : Wr T.heap h' (adr k sa n0 a) j (ren (adr k sa n0) v'))
    (S : Sim Z ws k sa n0 H T.heap) (N : Fr n0 locs) (q2 : H[a]? = some (.array ty, vs)) (hk : k ≤ a)
    (st' : ∀ target, Steps p.tables e below (T'.setTop (fr (adr k sa n0) m (pc + 1) ls r)) target → Steps p.tables e below (T.setTop g) target) :
    Beh p l e R s m args below meth c T Z ws k sa n0 cells slots H g (pc + 1) ls r (H.set a (.array ty, vs.set j v')) := by
  obtain ⟨cl, A, es⟩ := S.2.2.2.2 a _ q2
  refine ⟨T', _, ?_, by rw [e']; exact Wr.upd S W ⟨_, A.same W, size_set cl j _ _ es rfl⟩, Fr.snoc X' N (adr_ge hk), st'⟩
  rw [List.length_set, tot_set (o := (.array ty, vs)) (o' := (.array ty, vs.set j v')) q2 (by simp [cost]), Nat.sub_self, Nat.sub_self]
  exact X'
set_option maxHeartbeats 1000000 in
theorem hstep_sound (hw : ∀ d ∈ ws, d.before a0 Z = true) (X : Stand p l e R s m args below meth c T locs cells slots) (hx : p.tables.exec = Jvm.exec) (hZ : Z.Warmed39 s.vm) (hown : s.vm.findClass y.cls = some m.cls) (hnm : meth.name = y.name)
    {ins : Instr} {len : Nat} (hd : decode c.code pc = .ok (ins, len)) {q : Nat × List Value × AHeap} (hs : hstep ws k y ins len pc st H = some q) (S : Sim Z ws k sa n0 H T.heap) (N : Fr n0 locs)
    (hc : cells + (q.2.2.length - H.length) ≤ R.cells) (hl : slots + (tot ws q.2.2 - tot ws H) ≤ R.slots) (hz0 : T.heap.size = s.heap.size + cells) :
    Beh p l e R s m args below meth c T Z ws k sa n0 cells slots H (fr (adr k sa n0) m pc ls st) q.1 ls q.2.1 q.2.2 := by
  unfold hstep at hs
  split at hs
  · obtain ⟨rfl, hs⟩ := chk_some hs
    exact hGet_sound hw X hx hZ hown hd hs S N
  · obtain ⟨rfl, hs⟩ := chk_some hs
    exact hPut_sound hw X hx hZ hown hnm hd hs S N
  · obtain ⟨rfl, hs⟩ := chk_some hs
    exact hNew_sound hw X hx hZ hown hd hs S N hc hl hz0
  · obtain ⟨rfl, hs⟩ := chk_some hs
    exact hNewA_sound hw X hx hZ hd hs S N hc hl hz0
  · obtain ⟨rfl, hs⟩ := chk_some hs
    obtain ⟨j, a, r, ty, vs, v, rfl, q2, ho, hj, hv, rfl⟩ := hLd_some hs
    obtain rfl : ty = _ := of_decide_eq_true ho
    obtain ⟨cl, A, es⟩ := S.2.2.2.2 a _ q2
    have hlt := (List.getElem?_eq_some_iff.mp hv).1
    exact Beh.stay X S N fun target ht => X.iaload hx (j := j) (v := ren (adr k sa n0) v) A.1 (State.isArrayOf_alike hZ.alike A.2.1) A.2.2 (fun g => g.elim hj fun g => by rw [es] at g; simp at g; omega) (by rw [es, List.getElem?_toArray, List.getElem?_map, hv]; rfl) (g := fr (adr k sa n0) m pc ls (.int j :: .ref a :: r)) rfl rfl hd target ht
  · obtain ⟨rfl, hs⟩ := chk_some hs
    obtain ⟨j, a, r, ty, vs, v, rfl, q2, ho, hj, hv, rfl⟩ := hLd_some hs
    obtain rfl : ty = _ := of_decide_eq_true ho
    obtain ⟨cl, A, es⟩ := S.2.2.2.2 a _ q2
    have hlt := (List.getElem?_eq_some_iff.mp hv).1
    exact Beh.stay X S N fun target ht => X.caload hx (j := j) (v := ren (adr k sa n0) v) A.1 (State.isArrayOf_alike hZ.alike A.2.1) A.2.2 (fun g => g.elim hj fun g => by rw [es] at g; simp at g; omega) (by rw [es, List.getElem?_toArray, List.getElem?_map, hv]; rfl) (g := fr (adr k sa n0) m pc ls (.int j :: .ref a :: r)) rfl rfl hd target ht
  · obtain ⟨rfl, hs⟩ := chk_some hs
    obtain ⟨j, a, r, ty, vs, v, rfl, q2, ho, hj, hv, rfl⟩ := hLd_some hs
    obtain rfl : ty = _ := of_decide_eq_true ho
    obtain ⟨cl, A, es⟩ := S.2.2.2.2 a _ q2
    have hlt := (List.getElem?_eq_some_iff.mp hv).1
    exact Beh.stay X S N fun target ht => X.laload hx (j := j) (v := ren (adr k sa n0) v) A.1 (State.isArrayOf_alike hZ.alike A.2.1) A.2.2 (fun g => g.elim hj fun g => by rw [es] at g; simp at g; omega) (by rw [es, List.getElem?_toArray, List.getElem?_map, hv]; rfl) (g := fr (adr k sa n0) m pc ls (.int j :: .ref a :: r)) rfl rfl hd target ht
  · obtain ⟨rfl, hs⟩ := chk_some hs
    obtain ⟨j, a, r, ty, vs, v, rfl, q2, ho, hj, hv, rfl⟩ := hLd_some hs
    obtain ⟨cl, A, es⟩ := S.2.2.2.2 a _ q2
    have hlt := (List.getElem?_eq_some_iff.mp hv).1
    simp only [okB, Bool.or_eq_true, decide_eq_true_eq] at ho
    rcases ho with rfl | rfl
    · exact Beh.stay X S N fun target ht => X.baloadBytes hx (j := j) (v := ren (adr k sa n0) v) A.1 (State.isArrayOf_alike hZ.alike A.2.1) A.2.2 (fun g => g.elim hj fun g => by rw [es] at g; simp at g; omega) (by rw [es, List.getElem?_toArray, List.getElem?_map, hv]; rfl) (g := fr (adr k sa n0) m pc ls (.int j :: .ref a :: r)) rfl rfl hd target ht
    · exact Beh.stay X S N fun target ht => X.baloadBooleans hx (j := j) (v := ren (adr k sa n0) v) A.1 (State.isArrayOf_alike hZ.alike A.2.1) A.2.2 (fun g => g.elim hj fun g => by rw [es] at g; simp at g; omega) (by rw [es, List.getElem?_toArray, List.getElem?_map, hv]; rfl) (g := fr (adr k sa n0) m pc ls (.int j :: .ref a :: r)) rfl rfl hd target ht
  · obtain ⟨rfl, hs⟩ := chk_some hs
    obtain ⟨v, j, a, r, ty, vs, v', rfl, q2, ho, hk, hj, hlt, hv, rfl⟩ := hSt_some hs
    obtain rfl : ty = _ := of_decide_eq_true ho
    obtain ⟨cl, A, es⟩ := S.2.2.2.2 a _ q2
    cases v <;> simp only [putv, Option.some.injEq, reduceCtorEq] at hv
    subst hv
    obtain ⟨T', h', X', e', W, st'⟩ := stI X hx hZ rfl A (j := j) (fun g => g.elim hj fun g => by rw [es] at g; simp at g; omega) (g := fr (adr k sa n0) m pc ls (.int _ :: .int j :: .ref a :: r)) rfl rfl hd
    exact st_beh X' e' W S N q2 hk st'
  · obtain ⟨rfl, hs⟩ := chk_some hs
    obtain ⟨v, j, a, r, ty, vs, v', rfl, q2, ho, hk, hj, hlt, hv, rfl⟩ := hSt_some hs
    obtain rfl : ty = _ := of_decide_eq_true ho
    obtain ⟨cl, A, es⟩ := S.2.2.2.2 a _ q2
    cases v <;> simp only [putv, Option.some.injEq, reduceCtorEq] at hv
    subst hv
    obtain ⟨T', h', X', e', W, st'⟩ := stC X hx hZ rfl A (j := j) (fun g => g.elim hj fun g => by rw [es] at g; simp at g; omega) (g := fr (adr k sa n0) m pc ls (.int _ :: .int j :: .ref a :: r)) rfl rfl hd
    exact st_beh X' e' W S N q2 hk st'
  · obtain ⟨rfl, hs⟩ := chk_some hs
    obtain ⟨v, j, a, r, ty, vs, v', rfl, q2, ho, hk, hj, hlt, hv, rfl⟩ := hSt_some hs
    obtain rfl : ty = _ := of_decide_eq_true ho
    obtain ⟨cl, A, es⟩ := S.2.2.2.2 a _ q2
    cases v <;> simp only [putv, Option.some.injEq, reduceCtorEq] at hv
    subst hv
    obtain ⟨T', h', X', e', W, st'⟩ := stJ X hx hZ rfl A (j := j) (fun g => g.elim hj fun g => by rw [es] at g; simp at g; omega) (g := fr (adr k sa n0) m pc ls (.long _ :: .int j :: .ref a :: r)) rfl rfl hd
    exact st_beh X' e' W S N q2 hk st'
  · obtain ⟨rfl, hs⟩ := chk_some hs
    obtain ⟨v, j, a, r, ty, vs, v', rfl, q2, ho, hk, hj, hlt, hv, rfl⟩ := hSt_some hs
    obtain ⟨cl, A, es⟩ := S.2.2.2.2 a _ q2
    simp only [okB, Bool.or_eq_true, decide_eq_true_eq] at ho
    rcases ho with rfl | rfl
    · cases v <;> simp only [putv, Option.some.injEq, reduceCtorEq] at hv
      subst hv
      obtain ⟨T', h', X', e', W, st'⟩ := stB X hx hZ rfl A (j := j) (fun g => g.elim hj fun g => by rw [es] at g; simp at g; omega) (g := fr (adr k sa n0) m pc ls (.int _ :: .int j :: .ref a :: r)) rfl rfl hd
      exact st_beh X' e' W S N q2 hk st'
    · cases v <;> simp only [putv, Option.some.injEq, reduceCtorEq] at hv
      subst hv
      obtain ⟨T', h', X', e', W, st'⟩ := stZ X hx hZ rfl A (j := j) (fun g => g.elim hj fun g => by rw [es] at g; simp at g; omega) (g := fr (adr k sa n0) m pc ls (.int _ :: .int j :: .ref a :: r)) rfl rfl hd
      exact st_beh X' e' W S N q2 hk st'
  · obtain ⟨rfl, hs⟩ := chk_some hs
    obtain ⟨a, r, ty, vs, rfl, q2, rfl⟩ := hLen_some hs
    obtain ⟨cl, A, es⟩ := S.2.2.2.2 a _ q2
    have ez : cl.slots.size = vs.length := by rw [es]; simp
    refine Beh.stay X S N fun target ht => X.arraylength hx (cell := cl) A.1 (State.isArrayOf_alike hZ.alike A.2.1) (g := fr (adr k sa n0) m pc ls (.ref a :: r)) rfl rfl hd target ?_
    rw [ez]; exact ht
  · obtain ⟨rfl, hs⟩ := chk_some hs
    obtain ⟨v, hv, rfl⟩ := Option.map_eq_some_iff.mp hs
    exact Beh.stay X S N (X.ldcInt hx hown (mvT hZ (hw _ (rCon_mem hv))) (g := fr (adr k sa n0) m pc ls st) rfl hd)
  · obtain ⟨rfl, hs⟩ := chk_some hs
    obtain ⟨v, hv, rfl⟩ := Option.map_eq_some_iff.mp hs
    exact Beh.stay X S N (X.ldcwInt hx hown (mvT hZ (hw _ (rCon_mem hv))) (g := fr (adr k sa n0) m pc ls st) rfl hd)
  · obtain ⟨rfl, hs⟩ := chk_some hs
    obtain ⟨v, hv, rfl⟩ := Option.map_eq_some_iff.mp hs
    exact Beh.stay X S N (X.ldc2Long hx hown (mvT hZ (hw _ (rConL_mem hv))) (g := fr (adr k sa n0) m pc ls st) rfl hd)
  · cases hs
end H
theorem hstep_size {ws : Ws} {k : Nat} {y : MethodName} {ins : Instr} {len pc : Nat} {st : List Value} {H : AHeap} {q : Nat × List Value × AHeap} (hs : hstep ws k y ins len pc st H = some q) : H.length ≤ q.2.2.length ∧ tot ws H ≤ tot ws q.2.2 := by
  unfold hstep at hs
  split at hs
  · obtain ⟨rfl, hs⟩ := chk_some hs
    unfold hGet at hs
    split at hs
    · split at hs
      · split at hs
        · obtain ⟨v, -, rfl⟩ := Option.map_eq_some_iff.mp hs; exact ⟨Nat.le_refl _, Nat.le_refl _⟩
        · cases hs
      · cases hs
    · cases hs
  · obtain ⟨rfl, hs⟩ := chk_some hs
    unfold hPut at hs
    split at hs
    · split at hs
      · rename_i C j ty C' vs q1 q2
        split at hs
        · obtain ⟨v, -, rfl⟩ := Option.map_eq_some_iff.mp hs
          exact ⟨Nat.le_of_eq (by rw [List.length_set]), Nat.le_of_eq (tot_set (o := (.object C', vs)) (o' := (.object C', vs.set j v)) q2 rfl).symm⟩
        · cases hs
      · cases hs
    · cases hs
  · obtain ⟨rfl, hs⟩ := chk_some hs
    unfold hNew at hs
    split at hs
    · split at hs
      · cases hs; exact ⟨by simp, by rw [tot_app]; omega⟩
      · cases hs
    · cases hs
  · obtain ⟨rfl, hs⟩ := chk_some hs
    unfold hNewA at hs
    split at hs
    · split at hs
      · cases hs; exact ⟨by simp, by rw [tot_app]; omega⟩
      · cases hs
    · cases hs
  all_goals first
    | (obtain ⟨rfl, hs⟩ := chk_some hs; obtain ⟨j, a, r, ty, vs, v, rfl, q2, ho, hj, hv, rfl⟩ := hLd_some hs; exact ⟨Nat.le_refl _, Nat.le_refl _⟩)
    | (obtain ⟨rfl, hs⟩ := chk_some hs; obtain ⟨v, j, a, r, ty, vs, v', rfl, q2, ho, hk, hj, hlt, hv, rfl⟩ := hSt_some hs; exact ⟨Nat.le_of_eq (by rw [List.length_set]), Nat.le_of_eq (tot_set (o := (.array ty, vs)) (o' := (.array ty, vs.set _ v')) q2 (by simp [cost])).symm⟩)
    | (obtain ⟨rfl, hs⟩ := chk_some hs; obtain ⟨a, r, ty, vs, rfl, q2, rfl⟩ := hLen_some hs; exact ⟨Nat.le_refl _, Nat.le_refl _⟩)
    | (obtain ⟨rfl, hs⟩ := chk_some hs; obtain ⟨v, hv, rfl⟩ := Option.map_eq_some_iff.mp hs; exact ⟨Nat.le_refl _, Nat.le_refl _⟩)
    | (cases hs; done)
end Jvm.Own
namespace Jvm.Own
open Sem ClassFile Op Lib Jvm.Stand Jvm.Free Jvm.LawKit Jvm.RoadKit
/-! OWN 5: the run is the machine's -/
theorem ent_ren (f : Nat → Nat) : ∀ as : List Value, ent (as.map (ren f)) = (ent as).map (renS f)
  | [] => rfl
  | v :: r => by
    simp only [List.map_cons, ent, ren_cat, ent_ren f r]
    split <;> rfl
theorem fill_eq : ∀ (as : List Value) (acc : Array Slot), as.foldl (fun acc v => if v.category = 2 then (acc.push (.val v)).push .second else acc.push (.val v)) acc = acc ++ (ent as).toArray
  | [], acc => by simp [ent]
  | v :: r, acc => by
    simp only [List.foldl_cons, ent]
    split
    · rw [fill_eq r]; simp [← Array.toList_inj]
    · rw [fill_eq r]; simp [← Array.toList_inj]
theorem entry_eq (f : Nat → Nat) (m : MethodId) (as : List Value) (mx : Nat) : entryFrame m (as.map (ren f)).toArray mx = fr f m 0 (entry as mx) [] := by
  have h : argsToLocals (as.map (ren f)).toArray mx = ((entry as mx).map (renS f)).toArray := by
    unfold argsToLocals entry
    simp only [List.foldl_toArray']
    rw [fill_eq, ent_ren]
    simp [← Array.toList_inj, renS]
  unfold entryFrame
  rw [h]; rfl
theorem entry_len {as : List Value} {mx : Nat} (h : (ent as).length ≤ mx) : (entry as mx).length = mx := by simp [entry]; omega
theorem wsum_ren (f : Nat → Nat) (st : List Value) : ((st.map (ren f)).map fun v => v.category).sum = wsum st := by
  unfold wsum
  rw [List.map_map]
  congr 1
  apply List.map_congr_left
  intro v _
  exact ren_cat f v
section Inv
variable {ws : Ws} {dn : Dn} {k : Nat} {y : MethodName} {bytes : ByteArray} {ret : Option FieldType} {pc : Nat} {ls : List Slot} {st : List Value} {H : AHeap}
theorem cR_some {i : Nat} {y' : MethodName} {b : ByteArray} {mx na sl : Nat} {r : Option FieldType} (h : cR ws dn y i = some (y', b, mx, r, na, sl)) :
    Jvm.Cond.methodLink y.cls i y' ∈ ws ∧ Jvm.Cond.code y' b mx r ∈ ws ∧ Jvm.Cond.initialized y'.cls ∈ ws ∧ Jvm.plainName y'.cls = true ∧ (y'.cls ≠ "java/lang/invoke/MethodHandle" ∧ y'.cls ≠ "java/lang/invoke/VarHandle") ∧ rCode ws y' = some (b, mx, r) ∧
    ∃ f' l' f l sig, dnOf dn y' = some (f', l') ∧ dnOf dn y = some (f, l) ∧ parseMethodDescriptor y'.desc = some sig ∧ na = sig.parameters.length ∧ f' + 1 ≤ f ∧ sl + (mx + 11) + l' ≤ l := by
  unfold cR at h
  split at h
  · cases h
  · rename_i z q1
    split at h
    · rename_i b' mx' r' f' l' f l sig q2 q3 q4 q5
      split at h
      · rename_i g
        cases h
        obtain ⟨g1, g2, g3, g4, g5, g6⟩ := g
        exact ⟨rMth_mem q1, rCode_mem q2, hasInit_mem g1, g2, ⟨g3, g4⟩, q2, f', l', f, l, sig, q3, q4, q5, rfl, g5, by omega⟩
      · cases h
    · cases h
theorem act_ret {v : Option Value} (h : act ws dn k y bytes ret pc ls st H = some (.inl v)) : (∃ z r t, decode bytes pc = .ok (.ireturn, 1) ∧ st = .int z :: r ∧ ret = some t ∧ (t = .int ∨ t = .boolean ∨ t = .byte ∨ t = .char ∨ t = .short) ∧ v = some (.int (nar t z))) ∨
    (∃ z, decode bytes pc = .ok (.lreturn, 1) ∧ st = [.long z] ∧ ret = some .long ∧ v = some (.long z)) ∨ (decode bytes pc = .ok (.return_, 1) ∧ st = [] ∧ ret = none ∧ v = none) := by
  unfold act at h
  split at h
  · cases h
  rename_i ins len hd
  split at h
  · cases h
  split at h
  · cases h
  unfold cstep at h
  split at h
  · obtain ⟨rfl, h⟩ := chk_some h
    split at h
    · split at h
      · rename_i g; cases h; exact Or.inl ⟨_, _, _, hd, rfl, rfl, g, rfl⟩
      · cases h
    · cases h
  · obtain ⟨rfl, h⟩ := chk_some h
    split at h
    · cases h; exact Or.inr (Or.inl ⟨_, hd, rfl, rfl, rfl⟩)
    · cases h
  · obtain ⟨rfl, h⟩ := chk_some h
    split at h
    · cases h; exact Or.inr (Or.inr ⟨hd, rfl, rfl, rfl⟩)
    · cases h
  · obtain ⟨rfl, h⟩ := chk_some h
    split at h
    · split at h <;> cases h
    · cases h
  · obtain ⟨rfl, h⟩ := chk_some h
    split at h
    · split at h
      · split at h <;> cases h
      · cases h
    · split at h
      · split at h
        · split at h <;> cases h
        · cases h
      · cases h
  · obtain ⟨rfl, h⟩ := chk_some h
    split at h
    · split at h
      · split at h
        · split at h <;> cases h
        · cases h
      · cases h
    · cases h
  · cases h
theorem act_step {pc' : Nat} {ls' : List Slot} {st' : List Value} {H' : AHeap} (h : act ws dn k y bytes ret pc ls st H = some (.inr (.inl (pc', ls', st', H')))) : ∃ ins len, decode bytes pc = .ok (ins, len) ∧
    ((xstep ins len pc ls st = some (pc', ls', st') ∧ H' = H) ∨ (ls' = ls ∧ hstep ws k y ins len pc st H = some (pc', st', H')) ∨
     (∃ i sl a r, ins = .invokespecial i ∧ len = 3 ∧ oR ws dn y i = some sl ∧ st = .ref a :: r ∧ wsum r ≤ sl ∧ pc' = pc + 3 ∧ ls' = ls ∧ st' = r ∧ H' = H)) := by
  unfold act at h
  split at h
  · cases h
  rename_i ins len hd
  refine ⟨ins, len, hd, ?_⟩
  split at h
  · rename_i g; cases h; exact Or.inl ⟨g, rfl⟩
  split at h
  · rename_i g; cases h; exact Or.inr (Or.inl ⟨rfl, g⟩)
  unfold cstep at h
  split at h
  · obtain ⟨rfl, h⟩ := chk_some h
    split at h
    · split at h <;> cases h
    · cases h
  · obtain ⟨rfl, h⟩ := chk_some h
    split at h <;> cases h
  · obtain ⟨rfl, h⟩ := chk_some h
    split at h <;> cases h
  · obtain ⟨rfl, h⟩ := chk_some h
    split at h
    · split at h <;> cases h
    · cases h
  · obtain ⟨rfl, h⟩ := chk_some h
    split at h
    · rename_i sl ho
      split at h
      · split at h
        · rename_i g; cases h; exact Or.inr (Or.inr ⟨_, sl, _, _, rfl, rfl, ho, rfl, g, rfl, rfl, rfl, rfl⟩)
        · cases h
      · cases h
    · split at h
      · split at h
        · split at h <;> cases h
        · cases h
      · cases h
  · obtain ⟨rfl, h⟩ := chk_some h
    split at h
    · split at h
      · split at h
        · split at h <;> cases h
        · cases h
      · cases h
    · cases h
  · cases h
/-- the three kinds of call -/
theorem act_call {y' : MethodName} {b : ByteArray} {r : Option FieldType} {en : List Slot} {rest : List Value} (h : act ws dn k y bytes ret pc ls st H = some (.inr (.inr (y', b, r, en, rest)))) : ∃ i mx na sl as, cR ws dn y i = some (y', b, mx, r, na, sl) ∧ en = entry as mx ∧ (ent as).length ≤ mx ∧ wsum rest ≤ sl ∧
    ((decode bytes pc = .ok (.invokestatic i, 3) ∧ Jvm.Cond.static y' ∈ ws ∧ as.length = na ∧ st = as.reverse ++ rest) ∨
     (∃ a as', as = .ref a :: as' ∧ as'.length = na ∧ st = as'.reverse ++ .ref a :: rest ∧ Jvm.Cond.instanceMethod y' ∈ ws ∧
      ((decode bytes pc = .ok (.invokespecial i, 3) ∧ y'.name = "<init>" ∧ r = none) ∨
       (decode bytes pc = .ok (.invokevirtual i, 3) ∧ ∃ C vs, H[a]? = some (.object C, vs) ∧ ((Jvm.Cond.privateMethod y' ∈ ws ∧ ∃ ki, Jvm.Cond.instantiable y'.cls ki ∈ ws) ∨ (Jvm.Cond.declares y' ∈ ws ∧ Jvm.Cond.selects y'.cls y' y' ∈ ws ∧ C = y'.cls)))))) := by
  unfold act at h
  split at h
  · cases h
  rename_i ins len hd
  split at h
  · cases h
  split at h
  · cases h
  unfold cstep at h
  split at h
  · obtain ⟨rfl, h⟩ := chk_some h
    split at h
    · split at h <;> cases h
    · cases h
  · obtain ⟨rfl, h⟩ := chk_some h
    split at h <;> cases h
  · obtain ⟨rfl, h⟩ := chk_some h
    split at h <;> cases h
  · rename_i i _ _
    obtain ⟨rfl, h⟩ := chk_some h
    split at h
    · rename_i y1 b1 mx r1 na sl hq
      split at h
      · rename_i g
        cases h
        unfold sR at hq
        split at hq
        · rename_i q hc
          split at hq
          · rename_i hs
            cases hq
            refine ⟨i, mx, na, sl, _, hc, rfl, g.2.2, g.2.1, Or.inl ⟨hd, hasStat_mem hs, by simp; omega, by simp⟩⟩
          · cases hq
        · cases hq
      · cases h
    · cases h
  · rename_i i _ _
    obtain ⟨rfl, h⟩ := chk_some h
    split at h
    · split at h
      · split at h <;> cases h
      · cases h
    · split at h
      · rename_i y1 b1 mx r1 na sl hq
        split at h
        · rename_i a rest' hdrop
          split at h
          · rename_i g
            cases h
            unfold nR at hq
            split at hq
            · rename_i q hc
              split at hq
              · rename_i hs
                cases hq
                refine ⟨i, mx, na, sl, _, hc, rfl, g.2.1, g.1, Or.inr ⟨a, _, rfl, by simp; omega, ?_, hasIM_mem hs.2.1, Or.inl ⟨hd, hs.1, hs.2.2⟩⟩⟩
                rw [List.reverse_reverse, ← hdrop, List.take_append_drop]
              · cases hq
            · cases hq
          · cases h
        · cases h
      · cases h
  · rename_i i _ _
    obtain ⟨rfl, h⟩ := chk_some h
    split at h
    · rename_i pv y1 b1 mx r1 na sl hq
      split at h
      · rename_i a rest' hdrop
        split at h
        · rename_i C vs hH
          split at h
          · rename_i g
            cases h
            unfold vR at hq
            split at hq
            · rename_i q hc
              split at hq
              · rename_i hs
                split at hq
                · rename_i hp; cases hq
                  obtain ⟨ki, hki⟩ := Option.isSome_iff_exists.mp hp.2
                  exact ⟨i, mx, na, sl, _, hc, rfl, g.2.2.1, g.2.1, Or.inr ⟨a, _, rfl, by simp; omega, by rw [List.reverse_reverse, ← hdrop, List.take_append_drop], hasIM_mem hs, Or.inr ⟨hd, C, vs, hH, Or.inl ⟨hasPriv_mem hp.1, ki, rInst_mem hki⟩⟩⟩⟩
                · split at hq
                  · rename_i hp; cases hq
                    exact ⟨i, mx, na, sl, _, hc, rfl, g.2.2.1, g.2.1, Or.inr ⟨a, _, rfl, by simp; omega, by rw [List.reverse_reverse, ← hdrop, List.take_append_drop], hasIM_mem hs, Or.inr ⟨hd, C, vs, hH, Or.inr ⟨hasDecl_mem hp.1, hasSel_mem hp.2, g.1.resolve_left (by simp)⟩⟩⟩⟩
                  · cases hq
              · cases hq
            · cases hq
          · cases h
        · cases h
      · cases h
    · cases h
  · cases h
theorem act_size {pc' : Nat} {ls' : List Slot} {st' : List Value} {H' : AHeap} (h : act ws dn k y bytes ret pc ls st H = some (.inr (.inl (pc', ls', st', H')))) : H.length ≤ H'.length ∧ tot ws H ≤ tot ws H' ∧ ls'.length = ls.length := by
  obtain ⟨ins, len, hd, ⟨g, rfl⟩ | ⟨rfl, g⟩ | ⟨i, sl, a, r, -, -, -, -, -, -, rfl, -, rfl⟩⟩ := act_step h
  · exact ⟨Nat.le_refl _, Nat.le_refl _, xstep_size g⟩
  · have := hstep_size g; exact ⟨this.1, this.2, rfl⟩
  · exact ⟨Nat.le_refl _, Nat.le_refl _, rfl⟩
end Inv
theorem run_size {ws : Ws} {dn : Dn} {k : Nat} : ∀ {n : Nat} {y : MethodName} {bytes : ByteArray} {ret : Option FieldType} {pc : Nat} {ls : List Slot} {st : List Value} {H : AHeap} {v : Option Value} {H' : AHeap}, run ws dn k n y bytes ret pc ls st H = some (v, H') → H.length ≤ H'.length ∧ tot ws H ≤ tot ws H'
  | 0, _, _, _, _, _, _, _, _, _, h => by cases h
  | n + 1, y, bytes, ret, pc, ls, st, H, v, H', h => by
    rw [run] at h
    split at h
    · cases h
    · cases h; exact ⟨Nat.le_refl _, Nat.le_refl _⟩
    · rename_i g
      have h1 := run_size h
      have h2 := act_size g
      exact ⟨Nat.le_trans h2.1 h1.1, Nat.le_trans h2.2.1 h1.2⟩
    · split at h
      · rename_i g
        have h1 := run_size h
        have h2 := run_size g
        exact ⟨Nat.le_trans h2.1 h1.1, Nat.le_trans h2.2 h1.2⟩
      · cases h
section Snd
/-- from here on the machine comes to a return of v with the heap H' -/
def Goes (p : Program) (l : Launch) (e : Env) (R : Room) (s : State) (m : MethodId) (args : Array Value) (below : List Frame) (meth : Method) (c : Code) (T : State) (Z : State) (ws : Ws) (k sa n0 cells slots : Nat) (H : AHeap) (g : JFrame) (ret : Option FieldType) (v : Option Value) (H' : AHeap) : Prop :=
  ∃ T' locs', Stand p l e R s m args below meth c T' locs' (cells + (H'.length - H.length)) (slots + (tot ws H' - tot ws H)) ∧ Sim Z ws k sa n0 H' T'.heap ∧ Fr n0 locs' ∧ (ret = none → v = none) ∧
    ∀ fs, (∀ (fj : JFrame) (acts : List Action), fj.method = m → fj.locked = none → fj.entered = [] → (doReturn e (T'.setTop fj) acts (v.map (ren (adr k sa n0)))).1 = T'.setFrames fs) → Steps p.tables e below (T.setTop g) (T'.setFrames fs)
variable {p : Program} {l : Launch} {e : Env} {R : Room} {s : State} {m : MethodId} {args : Array Value} {below : List Frame} {meth : Method} {c : Code} {T : State} {locs : List Loc} {cells slots : Nat}
  {Z : State} {a0 : Array Value} {ws : Ws} {dn : Dn} {k sa n0 : Nat}
theorem Goes.of {T1 : State} {H H1 H' : AHeap} {g g1 : JFrame} {ret : Option FieldType} {v : Option Value} (hst : ∀ target, Steps p.tables e below (T1.setTop g1) target → Steps p.tables e below (T.setTop g) target)
    (G : Goes p l e R s m args below meth c T1 Z ws k sa n0 (cells + (H1.length - H.length)) (slots + (tot ws H1 - tot ws H)) H1 g1 ret v H') (m1 : H.length ≤ H1.length ∧ tot ws H ≤ tot ws H1) (m2 : H1.length ≤ H'.length ∧ tot ws H1 ≤ tot ws H') :
    Goes p l e R s m args below meth c T Z ws k sa n0 cells slots H g ret v H' := by
  obtain ⟨T', locs', X', S', N', hv, go⟩ := G
  have e1 : cells + (H1.length - H.length) + (H'.length - H1.length) = cells + (H'.length - H.length) := by omega
  have e2 : slots + (tot ws H1 - tot ws H) + (tot ws H' - tot ws H1) = slots + (tot ws H' - tot ws H) := by omega
  rw [e1, e2] at X'
  exact ⟨T', locs', X', S', N', hv, fun fs hf => hst _ (go fs hf)⟩
def Snd (Z : State) (ws : Ws) (dn : Dn) (k sa n0 n : Nat) : Prop :=
  ∀ (y : MethodName) (bytes : ByteArray) (ret : Option FieldType) (pc : Nat) (ls : List Slot) (st : List Value) (H : AHeap) (v : Option Value) (H' : AHeap), run ws dn k n y bytes ret pc ls st H = some (v, H') →
  ∀ (p : Program) (l : Launch) (e : Env) (R : Room) (s : State) (m : MethodId) (args : Array Value) (below : List Frame) (meth : Method) (c : Code) (T : State) (locs : List Loc) (cells slots : Nat),
    Stand p l e R s m args below meth c T locs cells slots → p.tables.exec = Jvm.exec → Z.Warmed39 s.vm → s.vm.findClass y.cls = some m.cls → meth.name = y.name → meth.sig.returnType = ret → c.code = bytes → ls.length = c.maxLocals →
    (∀ f lc, dnOf dn y = some (f, lc) → f ≤ R.frames ∧ lc ≤ R.locals) → Sim Z ws k sa n0 H T.heap → Fr n0 locs → cells + (H'.length - H.length) ≤ R.cells → slots + (tot ws H' - tot ws H) ≤ R.slots → T.heap.size = s.heap.size + cells →
    Goes p l e R s m args below meth c T Z ws k sa n0 cells slots H (fr (adr k sa n0) m pc ls st) ret v H'
theorem met_of {n : Nat} (ih : Snd Z ws dn k sa n0 n) (l : Launch) {y : MethodName} {b : ByteArray} {mx f lc : Nat} {r : Option FieldType} (wsx : List Jvm.Cond) (hp : Jvm.plainName y.cls = true) {as : List Value} (he : (ent as).length ≤ mx) {H H1 : AHeap} {v : Option Value}
    (hrun : run ws dn k n y b r 0 (entry as mx) [] H = some (v, H1)) (hdn : ∀ f' l', dnOf dn y = some (f', l') → f' ≤ f ∧ l' ≤ lc) {h : Heap} (S : Sim Z ws k sa n0 H h) {rc rs : Nat} (hc : H1.length - H.length ≤ rc) (hs : tot ws H1 - tot ws H ≤ rs) :
    MetFree l y (head1 (Jvm.Cond.code y b mx r :: wsx) ({ frames := f, cells := rc, slots := rs, locals := lc } : Room)) (fun a U => a = (as.map (ren (adr k sa n0))).toArray ∧ Z.Warmed39 U.vm ∧ U.heap = h) (fun _ _ _ _ _ => True)
      (fun _ U o U' => ∃ w L, o = .returned w ∧ (w = v.map (ren (adr k sa n0)) ∧ Sim Z ws k sa n0 H1 U'.heap ∧ Fr n0 L) ∧ FrameEnd U o U' L (H1.length - H.length) (tot ws H1 - tot ws H)) := by
  refine MetFree.of_bodySF (plainFor_of_name hp) hisR ?_
  intro p e s m args below meth c s₁ Bd hml0 hP hK
  obtain ⟨rfl, hZ, hh⟩ := hP
  have hown : s.vm.findClass y.cls = some m.cls := findClass_of_methodNamed Bd.named
  have hnm := (name_of_methodNamed Bd.named Bd.method).1
  have X0 : Stand p l e ({ frames := f, cells := rc, slots := rs, locals := lc } : Room) s m (as.map (ren (adr k sa n0))).toArray below meth c s₁ [] 0 0 := Stand.of_body Bd
  have e0 : s₁.heap = h := by rw [← hh, Bd.state]; rfl
  obtain ⟨T', locs', X', S', N', hv, go⟩ := ih y b r 0 (entry as mx) [] H v H1 hrun p l e _ s m _ below meth c s₁ [] 0 0 X0 Bd.exec hZ hown hnm Bd.returns Bd.bytes (by rw [entry_len he]; exact hml0.symm) hdn (by rw [e0]; exact S) (Fr.nil n0) (by rw [Nat.zero_add]; exact hc) (by rw [Nat.zero_add]; exact hs) (by rw [e0, ← hh, Nat.add_zero])
  obtain ⟨fs, hr, hrun', hended, hW, hsame⟩ := X'.leave (v := v.map (ren (adr k sa n0))) (fun hn => by rw [Bd.returns] at hn; rw [hv hn]; rfl)
  refine ⟨_, _, castTop (entry_eq _ m as mx) (go fs hr), hrun', hended, _, locs', rfl, ⟨rfl, S', N'⟩, ⟨_, rfl⟩, hW, hsame.mono (Nat.le_of_eq (Nat.zero_add _)) (Nat.le_of_eq (Nat.zero_add _))⟩
set_option maxHeartbeats 2000000 in
theorem snd (hw : ∀ d ∈ ws, d.before a0 Z = true) : ∀ n, Snd Z ws dn k sa n0 n
  | 0 => fun y bytes ret pc ls st H v H' h => by cases h
  | n + 1 => fun y bytes ret pc ls st H v H' h p l e R s m args below meth c T locs cells slots X hx hZ hown hnm hret hby hls hF S N hc hl hz0 => by
    have ih := snd hw n
    rw [run] at h
    split at h
    · cases h
    · rename_i v' ha
      cases h
      have stay : ∀ {v : Option Value}, (ret = none → v = none) → (∀ fs, (∀ (fj : JFrame) (acts : List Action), fj.method = m → fj.locked = none → fj.entered = [] → (doReturn e (T.setTop fj) acts (v.map (ren (adr k sa n0)))).1 = T.setFrames fs) → Steps p.tables e below (T.setTop (fr (adr k sa n0) m pc ls st)) (T.setFrames fs)) →
          Goes p l e R s m args below meth c T Z ws k sa n0 cells slots H (fr (adr k sa n0) m pc ls st) ret v H := fun hv hg => ⟨T, locs, by rw [Nat.sub_self, Nat.sub_self]; exact X, S, N, hv, hg⟩
      rcases act_ret ha with ⟨z, r, t, hd, rfl, rfl, ht, rfl⟩ | ⟨z, hd, rfl, rfl, rfl⟩ | ⟨hd, rfl, rfl, rfl⟩
      · refine stay (fun h => by cases h) fun fs hf => ?_
        rcases ht with rfl | ht
        · exact retOut X hx hret (w := .int z) (rest := r.map (ren (adr k sa n0))) rfl (Or.inl ⟨rfl, Or.inl rfl, z, rfl⟩) (hb hby hd) hf
        · exact retN X hx hret ht (hb hby hd) hf
      · exact stay (fun h => by cases h) fun fs hf => retOut X hx hret (w := .long z) (rest := []) rfl (Or.inr (Or.inl ⟨rfl, rfl, z, rfl⟩)) (hb hby hd) hf
      · exact stay (fun _ => rfl) fun fs hf => X.returnOut hx hret (hb hby hd) hf
    · rename_i pc' ls' st' H1 ha
      have m1 := act_size ha
      have m2 := run_size h
      obtain ⟨ins, len, hd, ⟨g, rfl⟩ | ⟨rfl, g⟩ | ⟨i, sl, a, r, rfl, rfl, ho, rfl, hW, rfl, rfl, rfl, rfl⟩⟩ := act_step ha
      · obtain ⟨T', locs', X', S', N', hv, go⟩ := ih y bytes ret pc' ls' st' H1 v H' h p l e R s m args below meth c T locs cells slots X hx hZ hown hnm hret hby (m1.2.2.trans hls) hF S N hc hl hz0
        exact ⟨T', locs', X', S', N', hv, fun fs hf => xstep_sound X.here hx (adr k sa n0) (hb hby hd) g (go fs hf)⟩
      · obtain ⟨T1, locs1, X1, S1, N1, st1⟩ := hstep_sound (ls := ls') hw X hx hZ hown hnm (hb hby hd) g S N (by dsimp only; omega) (by dsimp only; omega) hz0
        dsimp only at X1 S1 st1
        have z1 := S.1
        have z2 := S1.1
        have z3 := S.2.1
        have G := ih y bytes ret pc' ls' st' H1 v H' h p l e R s m args below meth c T1 locs1 _ _ X1 hx hZ hown hnm hret hby hls hF S1 N1 (by omega) (by omega) (by omega)
        exact Goes.of st1 G ⟨m1.1, m1.2.1⟩ m2
      · unfold oR at ho
        split at ho
        · rename_i y1 b1 mx1 r1 f1 l1 q1 q2 q3
          split at ho
          · rename_i g
            cases ho
            obtain ⟨rfl, g2, g3, rfl, rfl, g4, g5⟩ := g
            obtain ⟨u1, u2⟩ := hF _ _ q3
            have eb : b1 = ⟨#[0xb1]⟩ := by cases b1; cases g3; rfl
            subst eb
            obtain ⟨T1, X1, e1, st1⟩ := initO X hx hZ hown (hw _ (rMth_mem q1)) (hw _ (hasIM_mem g2)) (hw _ (rCode_mem q2)) rfl (g := fr (adr k sa n0) m pc ls' (.ref a :: st')) rfl (by simp [hls]) rfl (hb hby hd) (by omega) (W := l1 - 12) (by show 2 * 0 + _ ≤ _; rw [wsum_ren]; omega) (by omega)
            have G := ih y bytes ret (pc + 3) ls' st' H1 v H' h p l e R s m args below meth c T1 locs cells slots X1 hx hZ hown hnm hret hby hls hF (by rw [e1]; exact S) N hc hl (by rw [e1]; exact hz0)
            obtain ⟨T', locs', X', S', N', hv, go⟩ := G
            exact ⟨T', locs', X', S', N', hv, fun fs hf => st1 _ (go fs hf)⟩
          · cases ho
        · cases ho
    · rename_i y' b r en rest ha
      split at h
      · rename_i v1 H1 h1
        have m1 := run_size h1
        have m2 := run_size h
        obtain ⟨i, mx, na, sl, as, hq, rfl, hen, hW, hk⟩ := act_call ha
        obtain ⟨w1, w2, w3, w4, w5, -, f', l', f, lc, sig, d1, d2, d3, d4, d5, d6⟩ := cR_some hq
        obtain ⟨u1, u2⟩ := hF _ _ d2
        have hM := met_of ih l [] w4 hen h1 (f := f') (lc := l') (fun f2 l2 q => by rw [d1] at q; cases q; exact ⟨Nat.le_refl _, Nat.le_refl _⟩) S (Nat.le_refl _) (Nat.le_refl _)
        have hB := backOf (R := R) (p := p) (e := e) (below := below) (s := s) (args := args) (len := 3) (W := sl) (rm := ({ frames := f', cells := H1.length - H.length, slots := tot ws H1 - tot ws H, locals := l' } : Room)) (Q := fun w h L => w = v1.map (ren (adr k sa n0)) ∧ Sim Z ws k sa n0 H1 h ∧ Fr n0 L) hM hZ (hw _ w2) (hw _ w3) (by show f' + 1 ≤ _; omega) (by show sl + (mx + 11) + l' ≤ _; omega)
        have hsz : (fr (adr k sa n0) m pc ls st).locals.size = c.maxLocals := by simp [hls]
        have hWW : ∀ st' : List Value, wsum st' ≤ sl → 2 * (fr (adr k sa n0) m pc ls st).monitorRoom + ((st'.map (ren (adr k sa n0))).map fun v => v.category).sum ≤ sl := fun st' q => by show 2 * 0 + _ ≤ _; rw [wsum_ren]; omega
        have hback : ∀ (v' : Option Value) (vm₁ : Vm) (B : Pt), Stand p l e R s m args below meth c B.U B.locs B.cells B.slots →
            (∃ L, (v' = v1.map (ren (adr k sa n0)) ∧ Sim Z ws k sa n0 H1 B.U.heap ∧ Fr n0 L) ∧ B.locs = locs ++ L ∧ B.cells = cells + (H1.length - H.length) ∧ B.slots = slots + (tot ws H1 - tot ws H)) →
            (∀ target, Steps p.tables e below (B.U.setTop { fr (adr k sa n0) m pc ls st with pc := pc + 3, stack := v'.toList ++ rest.map (ren (adr k sa n0)) }) target → Steps p.tables e below (T.setTop (fr (adr k sa n0) m pc ls st)) target) →
            Goes p l e R s m args below meth c T Z ws k sa n0 cells slots H (fr (adr k sa n0) m pc ls st) ret v H' := by
          rintro v' vm₁ ⟨T1, L1, k1, n1⟩ X1 ⟨Lc, ⟨rfl, S1, N1⟩, l1, y1, z1⟩ st1
          dsimp only [Pt.U, Pt.locs, Pt.cells, Pt.slots] at X1 l1 y1 z1 st1 S1
          subst l1 y1 z1
          have z1 := S.1
          have z2 := S1.1
          have z3 := S.2.1
          have G := ih y bytes ret (pc + 3) ls (v1.toList ++ rest) H1 v H' h p l e R s m args below meth c T1 _ _ _ X1 hx hZ hown hnm hret hby hls hF S1 (Fr.app N N1) (by omega) (by omega) (by omega)
          refine Goes.of (fun target ht => st1 target ?_) G m1 m2
          have e1 : (v1.toList ++ rest).map (ren (adr k sa n0)) = (v1.map (ren (adr k sa n0))).toList ++ rest.map (ren (adr k sa n0)) := by cases v1 <;> simp
          rw [← e1]; exact ht
        rcases hk with ⟨hd, ws1, hna, rfl⟩ | ⟨a, as', rfl, hna, rfl, wi, ⟨hd, hn, rfl⟩ | ⟨hd, C, vs, hH, hpd⟩⟩
        · obtain ⟨v', vm₁, B, -, X1, P1, st1⟩ := Jvm.LawKit.callS X hx (y := y') hown (mvT hZ (hw _ w1)) (mvT hZ (hw _ ws1)) (mvT hZ (hw _ w3)) (mvT hZ (hw _ w2)) w5 hB (g := fr (adr k sa n0) m pc ls (as.reverse ++ rest)) rfl hsz (argsL := as.map (ren (adr k sa n0))) (rest := rest.map (ren (adr k sa n0)))
            (fun sg hsg => by rw [d3] at hsg; cases hsg; simp [hna, d4]) (by simp) (hWW rest hW) (hb hby hd) (fun _ _ => ⟨rfl, rfl, by show cells + (H1.length - H.length) ≤ _; omega, by show slots + (tot ws H1 - tot ws H) ≤ _; omega⟩)
          exact hback v' vm₁ B X1 P1 st1
        · obtain ⟨v', vm₁, B, -, X1, P1, st1⟩ := X.specialBack hx (y := y') hn hown (mvT hZ (hw _ w1)) (mvT hZ (hw _ wi)) (mvT hZ (hw _ w2)) w5 hB (g := fr (adr k sa n0) m pc ls (as'.reverse ++ .ref a :: rest)) rfl hsz (Steps.refl _) (a := adr k sa n0 a) (argsL := as'.map (ren (adr k sa n0))) (rest := rest.map (ren (adr k sa n0)))
            (fun sg hsg => by rw [d3] at hsg; cases hsg; simp [hna, d4]) (by simp [ren]) (hWW rest hW) (hb hby hd) (fun _ _ => ⟨rfl, rfl, by show cells + (H1.length - H.length) ≤ _; omega, by show slots + (tot ws H1 - tot ws H) ≤ _; omega⟩)
          exact hback v' vm₁ B X1 P1 fun target ht => st1.trans ht
        · have E := (S.2.2.2.2 a _ hH).1
          rcases hpd with ⟨wp, ki, wki⟩ | ⟨wd, wsel, rfl⟩
          · obtain ⟨cq, hq1, hq2⟩ := E.cell
            have hpa : s.PrivateAt y' := Cond.privateMethod_at (mvP hZ (hw _ wp) (args := #[]))
            have hsel : (Jvm.Cond.selects y'.cls y' y').before args s = true := by
              have wz : (Jvm.Cond.instantiable y'.cls ki).before args s = true := mvT hZ (hw _ wki)
              obtain ⟨c2, k2, i1, i2, -, i4, -⟩ := Cond.instantiable_spec wz
              exact selects_self_of_private i1 i2 (Bool.or_eq_false_iff.mp i4).1 hpa (mvT hZ (hw _ wi)) w5
            obtain ⟨v', vm₁, B, -, X1, P1, st1⟩ := X.privateBack hx (y := y') hown (mvT hZ (hw _ w1)) (mvT hZ (hw _ wi)) hsel hpa (mvT hZ (hw _ w2)) w5 hB (g := fr (adr k sa n0) m pc ls (as'.reverse ++ .ref a :: rest)) rfl hsz (Steps.refl _) (a := adr k sa n0 a) hq1 hq2 (argsL := as'.map (ren (adr k sa n0))) (rest := rest.map (ren (adr k sa n0)))
              (fun sg hsg => by rw [d3] at hsg; cases hsg; simp [hna, d4]) (by simp [ren]) (hWW rest hW) (hb hby hd) (fun _ _ => ⟨rfl, rfl, by show cells + (H1.length - H.length) ≤ _; omega, by show slots + (tot ws H1 - tot ws H) ≤ _; omega⟩)
            exact hback v' vm₁ B X1 P1 fun target ht => st1.trans ht
          · obtain ⟨cq, kq, qa, qb, qc⟩ := isOf hZ rfl E
            obtain ⟨v', vm₁, B, -, X1, P1, st1⟩ := X.virtualBack hx (y := y') (z := y') hown (mvT hZ (hw _ w1)) (mvT hZ (hw _ wd)) (notFace_of_selects (args := #[]) (mvT hZ (hw _ wsel))) (mvT hZ (hw _ wsel)) (mvT hZ (hw _ wi)) w5 hB qa qc (g := fr (adr k sa n0) m pc ls (as'.reverse ++ .ref a :: rest)) rfl hsz (Steps.refl _) (argsL := as'.map (ren (adr k sa n0))) (rest := rest.map (ren (adr k sa n0)))
              (fun sg hsg => by rw [d3] at hsg; cases hsg; simp [hna, d4]) (by simp [ren]) (hWW rest hW) (hb hby hd) (fun _ _ => ⟨rfl, rfl, by show cells + (H1.length - H.length) ≤ _; omega, by show slots + (tot ws H1 - tot ws H) ≤ _; omega⟩)
            exact hback v' vm₁ B X1 P1 fun target ht => st1.trans ht
      · cases h
end Snd
end Jvm.Own
namespace Jvm.Own
open Sem ClassFile Op Lib Jvm.Stand Jvm.Free Jvm.LawKit Jvm.RoadKit
/-! OWN 6: from here on no machine is in sight -/
theorem run_succ {ws : Ws} {dn : Dn} {k : Nat} : ∀ {n : Nat} {y : MethodName} {bytes : ByteArray} {ret : Option FieldType} {pc : Nat} {ls : List Slot} {st : List Value} {H : AHeap} {r : Option Value × AHeap}, run ws dn k n y bytes ret pc ls st H = some r → run ws dn k (n + 1) y bytes ret pc ls st H = some r
  | 0, _, _, _, _, _, _, _, _, h => by cases h
  | n + 1, y, bytes, ret, pc, ls, st, H, r, h => by
    rw [run] at h
    rw [run]
    split at h
    · cases h
    · exact h
    · exact run_succ h
    · split at h
      · rename_i v H1 g
        rw [run_succ g]
        exact run_succ h
      · cases h
theorem run_mono {ws : Ws} {dn : Dn} {k n n' : Nat} {y : MethodName} {bytes : ByteArray} {ret : Option FieldType} {pc : Nat} {ls : List Slot} {st : List Value} {H : AHeap} {r : Option Value × AHeap} (hn : n ≤ n') (h : run ws dn k n y bytes ret pc ls st H = some r) : run ws dn k n' y bytes ret pc ls st H = some r := by
  induction hn with
  | refl => exact h
  | step _ ih => exact run_succ ih
/-- from here on a run comes to a return at which Q holds -/
def W (ws : Ws) (dn : Dn) (k : Nat) (y : MethodName) (bytes : ByteArray) (ret : Option FieldType) (pc : Nat) (ls : List Slot) (st : List Value) (H : AHeap) (Q : Option Value → AHeap → Prop) : Prop :=
  ∃ n v H', run ws dn k n y bytes ret pc ls st H = some (v, H') ∧ Q v H'
section
variable {ws : Ws} {dn : Dn} {k : Nat} {y : MethodName} {bytes : ByteArray} {ret : Option FieldType} {pc : Nat} {ls : List Slot} {st : List Value} {H : AHeap} {Q : Option Value → AHeap → Prop}
theorem W_step {pc' : Nat} {ls' : List Slot} {st' : List Value} {H' : AHeap} (h : act ws dn k y bytes ret pc ls st H = some (.inr (.inl (pc', ls', st', H')))) : W ws dn k y bytes ret pc ls st H Q = W ws dn k y bytes ret pc' ls' st' H' Q := by
  refine propext ⟨fun ⟨n, v, H1, h1, h2⟩ => ?_, fun ⟨n, v, H1, h1, h2⟩ => ⟨n + 1, v, H1, by rw [run, h]; exact h1, h2⟩⟩
  cases n with
  | zero => cases h1
  | succ n => rw [run, h] at h1; exact ⟨n, v, H1, h1, h2⟩
theorem W_ret {v : Option Value} (h : act ws dn k y bytes ret pc ls st H = some (.inl v)) : W ws dn k y bytes ret pc ls st H Q = Q v H := by
  refine propext ⟨fun ⟨n, v, H1, h1, h2⟩ => ?_, fun h2 => ⟨1, v, H, by rw [run, h], h2⟩⟩
  cases n with
  | zero => cases h1
  | succ n => rw [run, h] at h1; cases h1; exact h2
theorem W_call {y' : MethodName} {b : ByteArray} {r : Option FieldType} {en : List Slot} {rest : List Value} (h : act ws dn k y bytes ret pc ls st H = some (.inr (.inr (y', b, r, en, rest)))) :
    W ws dn k y bytes ret pc ls st H Q = W ws dn k y' b r 0 en [] H (fun v H1 => W ws dn k y bytes ret (pc + 3) ls (v.toList ++ rest) H1 Q) := by
  refine propext ⟨fun ⟨n, v, H1, h1, h2⟩ => ?_, fun ⟨n, v, H1, h1, n', v', H', h2, h3⟩ => ⟨max n n' + 1, v', H', ?_, h3⟩⟩
  · cases n with
    | zero => cases h1
    | succ n =>
      rw [run, h] at h1
      dsimp only at h1
      split at h1
      · rename_i v' H' g; exact ⟨n, v', H', g, n, v, H1, h1, h2⟩
      · cases h1
  · rw [run, h]
    dsimp only
    rw [run_mono (Nat.le_max_left _ _) h1]
    exact run_mono (Nat.le_max_right _ _) h2
theorem W.mono {Q' : Option Value → AHeap → Prop} (h : W ws dn k y bytes ret pc ls st H Q) (hq : ∀ v H', Q v H' → Q' v H') : W ws dn k y bytes ret pc ls st H Q' := by
  obtain ⟨n, v, H', h1, h2⟩ := h; exact ⟨n, v, H', h1, hq _ _ h2⟩
theorem act_x {ins : Instr} {len pc' : Nat} {ls' : List Slot} {st' : List Value} (hd : decode bytes pc = .ok (ins, len)) (hx : xstep ins len pc ls st = some (pc', ls', st')) : act ws dn k y bytes ret pc ls st H = some (.inr (.inl (pc', ls', st', H))) := by
  unfold act; rw [hd]; dsimp only; rw [hx]
theorem act_h {ins : Instr} {len pc' : Nat} {st' : List Value} {H' : AHeap} (hd : decode bytes pc = .ok (ins, len)) (hx : xstep ins len pc ls st = none) (hh : hstep ws k y ins len pc st H = some (pc', st', H')) : act ws dn k y bytes ret pc ls st H = some (.inr (.inl (pc', ls, st', H'))) := by
  unfold act; rw [hd]; dsimp only; rw [hx]; dsimp only; rw [hh]
theorem act_c {ins : Instr} {len : Nat} (hd : decode bytes pc = .ok (ins, len)) (hx : xstep ins len pc ls st = none) (hh : hstep ws k y ins len pc st H = none) : act ws dn k y bytes ret pc ls st H = cstep ws dn y ret ins len pc ls st H := by
  unfold act; rw [hd]; dsimp only; rw [hx]; dsimp only; rw [hh]
/-- a plain step -/
theorem w_x {ins : Instr} {len pc' : Nat} {ls' : List Slot} {st' : List Value} (hd : decode bytes pc = .ok (ins, len)) (hx : xstep ins len pc ls st = some (pc', ls', st')) : W ws dn k y bytes ret pc ls st H Q = W ws dn k y bytes ret pc' ls' st' H Q := W_step (act_x hd hx)
/-- a conditional branch -/
theorem w_if {cd : ClassFile.Cond} {o : Int} {x : Int32} {t : Nat} {P : Prop} [Decidable P] (hd : decode bytes pc = .ok (.ifCond cd o, 3)) (hp : ifCond.holds cd x = decide P) (hj : jmp pc o = some t) :
    W ws dn k y bytes ret pc ls (.int x :: st) H Q = if P then W ws dn k y bytes ret t ls st H Q else W ws dn k y bytes ret (pc + 3) ls st H Q := by
  split
  · exact w_x hd (by simp only [xstep, chk, br, hp, hj, if_true]; simp [*])
  · exact w_x hd (by simp only [xstep, chk, br, hp, hj, if_true]; simp [*])
theorem w_icmp {cd : ClassFile.Cond} {o : Int} {x1 x2 : Int32} {t : Nat} {P : Prop} [Decidable P] (hd : decode bytes pc = .ok (.if_icmp cd o, 3)) (hp : if_icmp.holds cd x1 x2 = decide P) (hj : jmp pc o = some t) :
    W ws dn k y bytes ret pc ls (.int x2 :: .int x1 :: st) H Q = if P then W ws dn k y bytes ret t ls st H Q else W ws dn k y bytes ret (pc + 3) ls st H Q := by
  split
  · exact w_x hd (by simp only [xstep, chk, br, hp, hj, if_true]; simp [*])
  · exact w_x hd (by simp only [xstep, chk, br, hp, hj, if_true]; simp [*])
theorem w_get {i j : Nat} {a : Nat} {C : String} {vs : List Value} {v : Value} (hd : decode bytes pc = .ok (.getfield i, 3)) (hr : gfR ws y.cls i = some (C, j)) (ho : H[a]? = some (.object C, vs)) (hv : vs[j]? = some v) :
    W ws dn k y bytes ret pc ls (.ref a :: st) H Q = W ws dn k y bytes ret (pc + 3) ls (v :: st) H Q :=
  W_step (act_h hd rfl (by simp only [hstep, chk, hGet, hr, ho, hv, if_true, Option.map_some]))
theorem w_put {i j : Nat} {a : Nat} {C : String} {ty : FieldType} {vs : List Value} {v v' : Value} {H' : AHeap} (hd : decode bytes pc = .ok (.putfield i, 3)) (hr : pfR ws y.cls y.name i = some (C, j, ty)) (ho : H[a]? = some (.object C, vs)) (hk : k ≤ a) (hj : j < vs.length) (hv : putv ty v = some v') (hH : H.set a (.object C, vs.set j v') = H') :
    W ws dn k y bytes ret pc ls (v :: .ref a :: st) H Q = W ws dn k y bytes ret (pc + 3) ls st H' Q :=
  W_step (act_h hd rfl (by simp only [hstep, chk, hPut, hr, ho, hv, if_true, true_and, hk, hj, Option.map_some, hH, and_self]))
theorem w_new {i : Nat} {C : String} (hd : decode bytes pc = .ok (.new i, 3)) (hr : hNew ws y.cls i pc H st = some (pc + 3, .ref H.length :: st, H ++ [(.object C, (olay ws C).map dflt)])) :
    W ws dn k y bytes ret pc ls st H Q = W ws dn k y bytes ret (pc + 3) ls (.ref H.length :: st) (H ++ [(.object C, (olay ws C).map dflt)]) Q :=
  W_step (act_h hd rfl (by simp only [hstep, chk, if_true]; exact hr))
theorem w_newA {aty : ArrayType} {n : Int32} {ty : FieldType} (hd : decode bytes pc = .ok (.newarray aty, 2)) (ht : newarray.typeOf aty = ty) (hr : hasArr ws ty = true) (hn : ¬ n < 0) (hb : n.toNatClampNeg * 8 ≤ 536870912) :
    W ws dn k y bytes ret pc ls (.int n :: st) H Q = W ws dn k y bytes ret (pc + 2) ls (.ref H.length :: st) (H ++ [(.array ty, List.replicate n.toNatClampNeg (defaultValue ty))]) Q := by
  subst ht
  exact W_step (act_h hd rfl (by simp only [hstep, chk, hNewA, hr, hn, hb, if_true, not_false_eq_true, and_self]))
/-- may the instruction read an array of that kind? -/
def ldOk : Instr → FieldType → Bool
  | .iaload, .int | .caload, .char | .laload, .long | .baload, .byte | .baload, .boolean => true
  | _, _ => false
def stOk : Instr → FieldType → Bool
  | .iastore, .int | .castore, .char | .lastore, .long | .bastore, .byte | .bastore, .boolean => true
  | _, _ => false
theorem w_ald {ins : Instr} {a : Nat} {j : Int32} {ty : FieldType} {vs : List Value} {v : Value} (hd : decode bytes pc = .ok (ins, 1)) (hi : ldOk ins ty = true) (ho : H[a]? = some (.array ty, vs)) (hj : ¬ j < 0) (hv : vs[j.toNatClampNeg]? = some v) :
    W ws dn k y bytes ret pc ls (.int j :: .ref a :: st) H Q = W ws dn k y bytes ret (pc + 1) ls (v :: st) H Q := by
  unfold ldOk at hi
  split at hi
  all_goals first
    | exact W_step (act_h hd rfl (by simp only [hstep, chk, hLd, okT, okB, ho, hv, hj, if_true, Option.map_some, decide_true, not_false_eq_true, and_self, Bool.or_true, Bool.true_or]))
    | cases hi
theorem w_ast {ins : Instr} {a : Nat} {j : Int32} {ty : FieldType} {vs : List Value} {v v' : Value} {H' : AHeap} (hd : decode bytes pc = .ok (ins, 1)) (hi : stOk ins ty = true) (ho : H[a]? = some (.array ty, vs)) (hk : k ≤ a) (hj : ¬ j < 0) (hl : j.toNatClampNeg < vs.length) (hv : putv ty v = some v') (hH : H.set a (.array ty, vs.set j.toNatClampNeg v') = H') :
    W ws dn k y bytes ret pc ls (v :: .int j :: .ref a :: st) H Q = W ws dn k y bytes ret (pc + 1) ls st H' Q := by
  unfold stOk at hi
  split at hi
  all_goals first
    | exact W_step (act_h hd rfl (by simp only [hstep, chk, hSt, okT, okB, ho, hv, hj, hk, hl, hH, if_true, Option.map_some, decide_true, not_false_eq_true, and_self, Bool.or_true, Bool.true_or]))
    | cases hi
theorem w_len {a : Nat} {ty : FieldType} {vs : List Value} (hd : decode bytes pc = .ok (.arraylength, 1)) (ho : H[a]? = some (.array ty, vs)) :
    W ws dn k y bytes ret pc ls (.ref a :: st) H Q = W ws dn k y bytes ret (pc + 1) ls (.int vs.length.toInt32 :: st) H Q :=
  W_step (act_h hd rfl (by simp only [hstep, chk, hLen, ho, if_true]))
theorem w_ldc {i : Nat} {v : Int32} (hd : decode bytes pc = .ok (.ldc i, 2)) (hr : rCon ws y.cls i = some v) : W ws dn k y bytes ret pc ls st H Q = W ws dn k y bytes ret (pc + 2) ls (.int v :: st) H Q :=
  W_step (act_h hd rfl (by simp only [hstep, chk, hr, if_true, Option.map_some]))
theorem w_ldcw {i : Nat} {v : Int32} (hd : decode bytes pc = .ok (.ldc_w i, 3)) (hr : rCon ws y.cls i = some v) : W ws dn k y bytes ret pc ls st H Q = W ws dn k y bytes ret (pc + 3) ls (.int v :: st) H Q :=
  W_step (act_h hd rfl (by simp only [hstep, chk, hr, if_true, Option.map_some]))
theorem w_ldc2 {i : Nat} {v : Int64} (hd : decode bytes pc = .ok (.ldc2_w i, 3)) (hr : rConL ws y.cls i = some v) : W ws dn k y bytes ret pc ls st H Q = W ws dn k y bytes ret (pc + 3) ls (.long v :: st) H Q :=
  W_step (act_h hd rfl (by simp only [hstep, chk, hr, if_true, Option.map_some]))
theorem w_iret {z : Int32} (hd : decode bytes pc = .ok (.ireturn, 1)) (hr : ret = some .int) : W ws dn k y bytes ret pc ls (.int z :: st) H Q = Q (some (.int z)) H := by
  subst hr; exact W_ret (by rw [act_c hd rfl rfl]; rfl)
theorem w_iretN {z : Int32} {t : FieldType} (hd : decode bytes pc = .ok (.ireturn, 1)) (hr : ret = some t) (ht : t = .int ∨ t = .boolean ∨ t = .byte ∨ t = .char ∨ t = .short) : W ws dn k y bytes ret pc ls (.int z :: st) H Q = Q (some (.int (nar t z))) H := by
  subst hr; exact W_ret (by rw [act_c hd rfl rfl]; simp only [cstep, chk, if_true, ht])
theorem w_lret {z : Int64} (hd : decode bytes pc = .ok (.lreturn, 1)) (hr : ret = some .long) : W ws dn k y bytes ret pc ls [.long z] H Q = Q (some (.long z)) H := by
  subst hr; exact W_ret (by rw [act_c hd rfl rfl]; rfl)
theorem w_vret (hd : decode bytes pc = .ok (.return_, 1)) (hr : ret = none) : W ws dn k y bytes ret pc ls [] H Q = Q none H := by
  subst hr; exact W_ret (by rw [act_c hd rfl rfl]; rfl)
theorem w_obj {i sl : Nat} {a : Nat} (hd : decode bytes pc = .ok (.invokespecial i, 3)) (hr : oR ws dn y i = some sl) (hw : wsum st ≤ sl) : W ws dn k y bytes ret pc ls (.ref a :: st) H Q = W ws dn k y bytes ret (pc + 3) ls st H Q :=
  W_step (by rw [act_c hd rfl rfl]; simp only [cstep, chk, if_true, hr, hw])
theorem w_stat {i mx na sl : Nat} {y' : MethodName} {b : ByteArray} {r : Option FieldType} {as rest : List Value} {en : List Slot} (hd : decode bytes pc = .ok (.invokestatic i, 3)) (hr : sR ws dn y i = some (y', b, mx, r, na, sl)) (hn : as.length = na) (hw : wsum rest ≤ sl) (he : (ent as.reverse).length ≤ mx) (hen : entry as.reverse mx = en) :
    W ws dn k y bytes ret pc ls (as ++ rest) H Q = W ws dn k y' b r 0 en [] H (fun v H1 => W ws dn k y bytes ret (pc + 3) ls (v.toList ++ rest) H1 Q) := by
  subst hn hen
  have e1 : (as ++ rest).take as.length = as := by simp
  have e2 : (as ++ rest).drop as.length = rest := by simp
  exact W_call (by rw [act_c hd rfl rfl]; simp only [cstep, chk, if_true, hr, e1, e2, hw, he, List.length_append, Nat.le_add_right, and_self])
theorem w_spec {i mx na sl a : Nat} {y' : MethodName} {b : ByteArray} {r : Option FieldType} {as rest : List Value} {en : List Slot} (hd : decode bytes pc = .ok (.invokespecial i, 3)) (h0 : oR ws dn y i = none) (hr : nR ws dn y i = some (y', b, mx, r, na, sl)) (hn : as.length = na) (hw : wsum rest ≤ sl) (he : (ent (.ref a :: as.reverse)).length ≤ mx) (hen : entry (.ref a :: as.reverse) mx = en) :
    W ws dn k y bytes ret pc ls (as ++ .ref a :: rest) H Q = W ws dn k y' b r 0 en [] H (fun v H1 => W ws dn k y bytes ret (pc + 3) ls (v.toList ++ rest) H1 Q) := by
  subst hn hen
  have e1 : (as ++ .ref a :: rest).take as.length = as := by simp
  have e2 : (as ++ .ref a :: rest).drop as.length = .ref a :: rest := by simp
  exact W_call (by rw [act_c hd rfl rfl]; simp only [cstep, chk, if_true, h0, hr, e1, e2, hw, he, List.length_append, Nat.le_add_right, and_self])
theorem w_virt {i mx na sl a : Nat} {pv : Bool} {y' : MethodName} {b : ByteArray} {r : Option FieldType} {as rest : List Value} {en : List Slot} {C : String} {vs : List Value} (hd : decode bytes pc = .ok (.invokevirtual i, 3)) (hr : vR ws dn y i = some (pv, y', b, mx, r, na, sl)) (ho : H[a]? = some (.object C, vs)) (hC : C = y'.cls) (hn : as.length = na) (hw : wsum rest ≤ sl) (he : (ent (.ref a :: as.reverse)).length ≤ mx) (hen : entry (.ref a :: as.reverse) mx = en) :
    W ws dn k y bytes ret pc ls (as ++ .ref a :: rest) H Q = W ws dn k y' b r 0 en [] H (fun v H1 => W ws dn k y bytes ret (pc + 3) ls (v.toList ++ rest) H1 Q) := by
  subst hn hen hC
  have e1 : (as ++ .ref a :: rest).take as.length = as := by simp
  have e2 : (as ++ .ref a :: rest).drop as.length = .ref a :: rest := by simp
  exact W_call (by rw [act_c hd rfl rfl]; simp only [cstep, chk, if_true, hr, e1, e2, ho, hw, he, List.length_append, Nat.le_add_right, and_self, or_true])
end
theorem law_of {Z : State} {a0 : Array Value} {ws : Ws} {dn : Dn} {k sa n0 : Nat} (hw : ∀ d ∈ ws, d.before a0 Z = true) (l : Launch) {y : MethodName} {b : ByteArray} {mx f lc rc rs : Nat} {r : Option FieldType} (wsx : List Jvm.Cond) (hp : Jvm.plainName y.cls = true) {as : List Value} (he : (ent as).length ≤ mx) {H : AHeap}
    (hW : W ws dn k y b r 0 (entry as mx) [] H (fun v H1 => v = some (.int 1) ∧ H1.length - H.length ≤ rc ∧ tot ws H1 - tot ws H ≤ rs)) (hdn : ∀ f' l', dnOf dn y = some (f', l') → f' ≤ f ∧ l' ≤ lc) {h : Heap} (S : Sim Z ws k sa n0 H h) :
    MetFree l y (head1 (Jvm.Cond.code y b mx r :: wsx) ({ frames := f, cells := rc, slots := rs, locals := lc } : Room)) (fun a U => a = (as.map (ren (adr k sa n0))).toArray ∧ Z.Warmed39 U.vm ∧ U.heap = h) (fun _ _ _ _ _ => True)
      (fun _ U o U' => ∃ w L, o = .returned w ∧ (w = some (.int 1) ∧ Fr n0 L) ∧ FrameEnd U o U' L rc rs) := by
  obtain ⟨n, v, H1, h1, rfl, h3, h4⟩ := hW
  have M := met_of (snd hw n) l wsx hp he h1 hdn S h3 h4
  intro p e ha hc hk s m args below hf happ hP hK
  obtain ⟨n', o, g1, g2, g3, w, L, rfl, ⟨rfl, -, N⟩, F⟩ := M p e ha hc hk s m args below hf happ hP hK
  exact ⟨n', _, g1, g2, g3, _, L, rfl, ⟨rfl, N⟩, F.1, F.2.1, F.2.2.mono h3 h4⟩
/-- the start of a law whose arguments hold no reference -/
theorem Sim.empty (Z : State) (ws : Ws) (h : Heap) : Sim Z ws 0 0 h.size [] h :=
  ⟨by simp, Nat.le_refl _, Nat.zero_le _, (fun q => absurd q (by decide)), (fun i o q => by simp at q)⟩
/-- the start of a law over one array of ints -/
theorem Sim.script {Z : State} (ws : Ws) {h : Heap} {a : Addr} {c : Cell} {vs : List Int32} (A : Arr Z h a c .int) (e : c.slots = (vs.map Value.int).toArray) : Sim Z ws 1 a h.size [(.array .int, vs.map Value.int)] h := by
  refine ⟨by simp, Nat.le_refl _, Nat.le_refl _, fun _ => A.lt, fun i o q => ?_⟩
  cases i with
  | zero =>
    cases q
    refine ⟨c, A, e.trans ?_⟩
    rw [List.map_map]; rfl
  | succ i => cases q
end Jvm.Own
namespace Jvm.Own
open Sem ClassFile Op Lib Jvm.Stand Jvm.Free Jvm.LawKit Jvm.RoadKit
/-! OWN 7: states of an object as plain functions -/
def ou {α : Type} (s : Nat → α) (i : Nat) (v : α) : Nat → α := fun j => if j = i then v else s j
theorem ou_a {α : Type} (s : Nat → α) (i : Nat) (v : α) (j : Nat) : ou s i v j = if j = i then v else s j := rfl
def pad (b : Nat) (pre : AHeap) : AHeap := (pre ++ List.replicate b (FieldType.int, [])).take b
theorem pad_len (b : Nat) (pre : AHeap) : (pad b pre).length = b := by simp [pad]
theorem pad_eq {b : Nat} {pre : AHeap} (h : pre.length = b) : pad b pre = pre := by subst h; simp [pad]
theorem pad_0 (pre : AHeap) : pad 0 pre = [] := by simp [pad]
theorem tot_cons (ws : Ws) (o : FieldType × List Value) (r : AHeap) : tot ws (o :: r) = cost ws o + tot ws r := by simp [tot]
theorem tot_append (ws : Ws) (a r : AHeap) : tot ws (a ++ r) = tot ws a + tot ws r := by simp [tot]
theorem tot_nil (ws : Ws) : tot ws [] = 0 := rfl
theorem pad_get (b : Nat) (pre r : AHeap) (i : Nat) : (pad b pre ++ r)[b + i]? = r[i]? := by
  rw [List.getElem?_append_right (by rw [pad_len]; omega), pad_len]; congr 1; omega
theorem pad_get0 (b : Nat) (pre r : AHeap) : (pad b pre ++ r)[b]? = r[0]? := pad_get b pre r 0
theorem pad_set (b : Nat) (pre r : AHeap) (i : Nat) (o : FieldType × List Value) : (pad b pre ++ r).set (b + i) o = pad b pre ++ r.set i o := by
  rw [List.set_append_right _ _ (by rw [pad_len]; omega), pad_len]; congr 2; omega
theorem pad_set0 (b : Nat) (pre r : AHeap) (o : FieldType × List Value) : (pad b pre ++ r).set b o = pad b pre ++ r.set 0 o := pad_set b pre r 0 o
theorem rCode_of {ws : Ws} {y : MethodName} {b : ByteArray} {m i : Nat} {r : Option FieldType} (h : ws[i]? = some (.code y b m r)) (h2 : (ws.take i).all (fun d => match d with | .code z _ _ _ => !decide (z = y) | _ => true) = true) : rCode ws y = some (b, m, r) := by
  have e : ws = ws.take i ++ (.code y b m r :: ws.drop (i + 1)) := by
    obtain ⟨hi, hg⟩ := List.getElem?_eq_some_iff.mp h
    rw [← hg, ← List.drop_eq_getElem_cons hi, List.take_append_drop]
  unfold rCode
  rw [e, List.findSome?_append]
  have e1 : (ws.take i).findSome? (fun d => match d with | .code z b m r => if z = y then some (b, m, r) else none | _ => none) = none := by
    rw [List.findSome?_eq_none_iff]
    intro d hd
    have q := List.all_eq_true.mp h2 d hd
    split
    · rename_i z b' m' r'
      simp at q
      simp [q]
    · rfl
  rw [e1]
  simp
theorem cR_of {ws : Ws} {dn : Dn} {y y' : MethodName} {b : ByteArray} {mx i f' l' f l na sl : Nat} {r : Option FieldType} {sig : MethodDescriptor} (h1 : rMth ws y.cls i = some y') (h2 : rCode ws y' = some (b, mx, r)) (h3 : dnOf dn y' = some (f', l')) (h4 : dnOf dn y = some (f, l)) (h5 : parseMethodDescriptor y'.desc = some sig)
    (h6 : decide (hasInit ws y'.cls = true ∧ Jvm.plainName y'.cls = true ∧ y'.cls ≠ "java/lang/invoke/MethodHandle" ∧ y'.cls ≠ "java/lang/invoke/VarHandle" ∧ f' + 1 ≤ f ∧ mx + 11 + l' ≤ l) = true) (h7 : sig.parameters.length = na) (h8 : l - (mx + 11 + l') = sl) : cR ws dn y i = some (y', b, mx, r, na, sl) := by
  subst h7 h8
  unfold cR
  rw [h1]; dsimp only
  rw [h2, h3, h4, h5]; dsimp only
  rw [if_pos (of_decide_eq_true h6)]
theorem sR_of {ws : Ws} {dn : Dn} {y : MethodName} {i : Nat} {q : MethodName × ByteArray × Nat × Option FieldType × Nat × Nat} (h : cR ws dn y i = some q) (hs : hasStat ws q.1 = true) : sR ws dn y i = some q := by
  unfold sR; rw [h]; dsimp only; rw [if_pos hs]
theorem nR_of {ws : Ws} {dn : Dn} {y : MethodName} {i : Nat} {q : MethodName × ByteArray × Nat × Option FieldType × Nat × Nat} (h : cR ws dn y i = some q) (h1 : q.1.name = "<init>") (h2 : hasIM ws q.1 = true) (h3 : q.2.2.2.1 = none) : nR ws dn y i = some q := by
  unfold nR; rw [h]; dsimp only; rw [if_pos ⟨h1, h2, h3⟩]
theorem vR_of {ws : Ws} {dn : Dn} {y : MethodName} {i : Nat} {q : MethodName × ByteArray × Nat × Option FieldType × Nat × Nat} (h : cR ws dn y i = some q) (h1 : hasIM ws q.1 = true) (h2 : decide (hasPriv ws q.1 = true ∧ (rInst ws q.1.cls).isSome = true) = false) (h3 : decide (hasDecl ws q.1 = true ∧ hasSel ws q.1 = true) = true) : vR ws dn y i = some (false, q) := by
  unfold vR; rw [h]; dsimp only; rw [if_pos h1, if_neg (of_decide_eq_false h2), if_pos (of_decide_eq_true h3)]
theorem pR_of {ws : Ws} {dn : Dn} {y : MethodName} {i : Nat} {q : MethodName × ByteArray × Nat × Option FieldType × Nat × Nat} (h : cR ws dn y i = some q) (h1 : hasIM ws q.1 = true) (h2 : decide (hasPriv ws q.1 = true ∧ (rInst ws q.1.cls).isSome = true) = true) : vR ws dn y i = some (true, q) := by
  unfold vR; rw [h]; dsimp only; rw [if_pos h1, if_pos (of_decide_eq_true h2)]
def inB {α : Type} (j : Int32) (l : List α) : Prop := ¬ j < 0 ∧ j.toNatClampNeg < l.length
def getA (l : List Int32) (j : Int32) : Int32 := l.getD j.toNatClampNeg 0
def getL (l : List Int64) (j : Int32) : Int64 := l.getD j.toNatClampNeg 0
def setA {α : Type} (l : List α) (j : Int32) (v : α) : List α := l.set j.toNatClampNeg v
def c1 : Slot → Bool
  | .unset => true
  | .second => false
  | .val v => v.category == 1
theorem c1_u : c1 .unset = true := rfl
theorem c1_i (x : Int32) : c1 (.val (.int x)) = true := rfl
theorem c1_r (a : Nat) : c1 (.val (.ref a)) = true := rfl
theorem c1_n : c1 (.val .null) = true := rfl
theorem i_eq (x y : Int32) : if_icmp.holds .eq x y = decide (x = y) := by simp only [if_icmp.holds]; by_cases h : x = y <;> simp [h]
theorem i_ne (x y : Int32) : if_icmp.holds .ne x y = !decide (x = y) := by simp only [if_icmp.holds]; by_cases h : x = y <;> simp [h]
theorem i_lt (x y : Int32) : if_icmp.holds .lt x y = decide (x < y) := rfl
theorem i_gt (x y : Int32) : if_icmp.holds .gt x y = decide (y < x) := rfl
theorem i_ge (x y : Int32) : if_icmp.holds .ge x y = !decide (x < y) := by
  show decide (y ≤ x) = _
  have e1 : (y ≤ x) ↔ ¬ (x < y) := by rw [Int32.le_iff_toInt_le, Int32.lt_iff_toInt_lt]; omega
  by_cases h : x < y
  · have : ¬ y ≤ x := fun g => e1.mp g h
    simp [h, this]
  · have := e1.mpr h
    simp [h, this]
theorem i_le (x y : Int32) : if_icmp.holds .le x y = !decide (y < x) := i_ge y x
theorem z_eq (x : Int32) : ifCond.holds .eq x = decide (x = 0) := i_eq x 0
theorem z_ne (x : Int32) : ifCond.holds .ne x = !decide (x = 0) := i_ne x 0
theorem z_lt (x : Int32) : ifCond.holds .lt x = decide (x < 0) := rfl
theorem z_gt (x : Int32) : ifCond.holds .gt x = decide (0 < x) := rfl
theorem z_ge (x : Int32) : ifCond.holds .ge x = !decide (x < 0) := i_ge x 0
theorem z_le (x : Int32) : ifCond.holds .le x = !decide (0 < x) := i_le x 0
theorem nb0 : nar .boolean 0 = 0 := by decide
theorem nb1 : nar .boolean 1 = 1 := by decide
section
variable {ws : Ws} {dn : Dn} {k : Nat} {y : MethodName} {bytes : ByteArray} {ret : Option FieldType} {pc : Nat} {ls : List Slot} {st : List Value} {H : AHeap} {Q : Option Value → AHeap → Prop}
theorem W_stuck (h : act ws dn k y bytes ret pc ls st H = none) : W ws dn k y bytes ret pc ls st H Q = False := by
  refine propext ⟨fun ⟨n, v, H1, h1, h2⟩ => ?_, False.elim⟩
  cases n with
  | zero => cases h1
  | succ n => rw [run, h] at h1; cases h1
theorem stl_c1 {i : Nat} {o : Slot} {v : Value} (ho : ls[i]? = some o) (hc : c1 o = true) (hv : v.category = 1) : stl ls i v = some (ls.set i (.val v)) := by
  have h := XS.store1 (l := ls.toArray) (i := i) (v := v) (o := o) (by simpa using ho) (by
    cases o with
    | unset => exact Or.inl rfl
    | second => cases hc
    | val w => exact Or.inr ⟨w, rfl, by simpa [c1] using hc⟩) hv
  unfold stl
  rw [h]; simp
/-- a store of one word -/
theorem w_st {ins : Instr} {len i : Nat} {o : Slot} {v : Value} {p : Value → Bool} {nx : Nat} {ls' : List Slot} (hd : decode bytes pc = .ok (ins, len)) (hx : xstep ins len pc ls (v :: st) = stV p nx i ls (v :: st)) (hp : p v = true) (hv : v.category = 1) (ho : ls[i]? = some o) (hs : ls.set i (.val v) = ls') (hc : c1 o = true) :
    W ws dn k y bytes ret pc ls (v :: st) H Q = W ws dn k y bytes ret nx ls' st H Q := by
  subst hs
  exact w_x hd (by rw [hx]; simp only [stV, hp, if_true, stl_c1 ho hc hv, Option.map_some])
theorem w_iinc {i : Nat} {c : Int} {x z : Int32} {ls' : List Slot} (hd : decode bytes pc = .ok (.iinc i c, 3)) (ho : ls[i]? = some (.val (.int x))) (hz : Int32.ofInt c = z) (hs : ls.set i (.val (.int (x + z))) = ls') :
    W ws dn k y bytes ret pc ls st H Q = W ws dn k y bytes ret (pc + 3) ls' st H Q := by
  subst hs hz
  exact w_x hd (by simp only [xstep, chk, if_true, ho, stl_c1 (v := .int (x + Int32.ofInt c)) ho rfl rfl, Option.map_some])
theorem w_con {ins : Instr} {len nx : Nat} {v v' : Value} (hd : decode bytes pc = .ok (ins, len)) (hx : xstep ins len pc ls st = some (nx, ls, v :: st)) (hv : v = v') : W ws dn k y bytes ret pc ls st H Q = W ws dn k y bytes ret nx ls (v' :: st) H Q := by
  subst hv; exact w_x hd hx
theorem w_ifN {cd : ClassFile.Cond} {o : Int} {x : Int32} {t : Nat} {P : Prop} [Decidable P] (hd : decode bytes pc = .ok (.ifCond cd o, 3)) (hp : ifCond.holds cd x = !decide P) (hj : jmp pc o = some t) :
    W ws dn k y bytes ret pc ls (.int x :: st) H Q = if P then W ws dn k y bytes ret (pc + 3) ls st H Q else W ws dn k y bytes ret t ls st H Q := by
  split
  · exact w_x hd (by simp only [xstep, chk, br, hp, hj, if_true]; simp [*])
  · exact w_x hd (by simp only [xstep, chk, br, hp, hj, if_true]; simp [*])
theorem w_icmpN {cd : ClassFile.Cond} {o : Int} {x1 x2 : Int32} {t : Nat} {P : Prop} [Decidable P] (hd : decode bytes pc = .ok (.if_icmp cd o, 3)) (hp : if_icmp.holds cd x1 x2 = !decide P) (hj : jmp pc o = some t) :
    W ws dn k y bytes ret pc ls (.int x2 :: .int x1 :: st) H Q = if P then W ws dn k y bytes ret (pc + 3) ls st H Q else W ws dn k y bytes ret t ls st H Q := by
  split
  · exact w_x hd (by simp only [xstep, chk, br, hp, hj, if_true]; simp [*])
  · exact w_x hd (by simp only [xstep, chk, br, hp, hj, if_true]; simp [*])
theorem ld_stuck {ins : Instr} {a : Nat} {j : Int32} {ty : FieldType} {vs : List Value} (hd : decode bytes pc = .ok (ins, 1)) (hi : ldOk ins ty = true) (ho : H[a]? = some (.array ty, vs)) (hj : ¬ (¬ j < 0 ∧ j.toNatClampNeg < vs.length)) : act ws dn k y bytes ret pc ls (.int j :: .ref a :: st) H = none := by
  have hv : j < 0 ∨ vs[j.toNatClampNeg]? = none := by
    by_cases q : j < 0
    · exact Or.inl q
    · exact Or.inr (List.getElem?_eq_none (Nat.le_of_not_lt fun g => hj ⟨q, g⟩))
  unfold ldOk at hi
  split at hi
  all_goals first
    | (rw [act_c hd rfl (by rcases hv with q | q <;> simp [hstep, chk, hLd, okT, okB, ho, q])]; rfl)
    | cases hi
theorem st_stuck {ins : Instr} {a : Nat} {j : Int32} {ty : FieldType} {vs : List Value} {v : Value} (hd : decode bytes pc = .ok (ins, 1)) (hi : stOk ins ty = true) (ho : H[a]? = some (.array ty, vs)) (hj : ¬ (¬ j < 0 ∧ j.toNatClampNeg < vs.length)) : act ws dn k y bytes ret pc ls (v :: .int j :: .ref a :: st) H = none := by
  have hv : ¬ (¬ j < 0 ∧ j.toNatClampNeg < vs.length) := hj
  unfold stOk at hi
  split at hi
  all_goals first
    | (rw [act_c hd rfl (by simp only [hstep, chk, hSt, okT, okB, ho, if_true]; rw [if_neg (fun q => hv q.2.2)])]; rfl)
    | cases hi
theorem w_ild {ins : Instr} {a : Nat} {j : Int32} {ty : FieldType} {l : List Int32} (hd : decode bytes pc = .ok (ins, 1)) (hi : ldOk ins ty = true) (ho : H[a]? = some (.array ty, l.map Value.int)) :
    W ws dn k y bytes ret pc ls (.int j :: .ref a :: st) H Q = (inB j l ∧ W ws dn k y bytes ret (pc + 1) ls (.int (getA l j) :: st) H Q) := by
  by_cases h : inB j l
  · rw [w_ald hd hi ho h.1 (v := .int (getA l j)) (by simp [getA, h.2])]
    simp [h]
  · rw [W_stuck (ld_stuck hd hi ho (by simpa [inB] using h))]
    simp [h]
theorem w_lld {a : Nat} {j : Int32} {l : List Int64} (hd : decode bytes pc = .ok (.laload, 1)) (ho : H[a]? = some (.array .long, l.map Value.long)) :
    W ws dn k y bytes ret pc ls (.int j :: .ref a :: st) H Q = (inB j l ∧ W ws dn k y bytes ret (pc + 1) ls (.long (getL l j) :: st) H Q) := by
  by_cases h : inB j l
  · rw [w_ald hd rfl ho h.1 (v := .long (getL l j)) (by simp [getL, h.2])]
    simp [h]
  · rw [W_stuck (ld_stuck hd rfl ho (by simpa [inB] using h))]
    simp [h]
theorem w_ist {ins : Instr} {a : Nat} {j v v' : Int32} {ty : FieldType} {l : List Int32} {H' : AHeap} (hd : decode bytes pc = .ok (ins, 1)) (hi : stOk ins ty = true) (ho : H[a]? = some (.array ty, l.map Value.int)) (hk : k ≤ a) (hv : putv ty (.int v) = some (.int v')) (hH : H.set a (.array ty, (setA l j v').map Value.int) = H') :
    W ws dn k y bytes ret pc ls (.int v :: .int j :: .ref a :: st) H Q = (inB j l ∧ W ws dn k y bytes ret (pc + 1) ls st H' Q) := by
  by_cases h : inB j l
  · rw [w_ast (H' := H') hd hi ho hk h.1 (by simpa using h.2) hv (by rw [← hH, setA, List.map_set])]
    simp [h]
  · rw [W_stuck (st_stuck hd hi ho (by simpa [inB] using h))]
    simp [h]
theorem w_lst {a : Nat} {j : Int32} {v : Int64} {l : List Int64} {H' : AHeap} (hd : decode bytes pc = .ok (.lastore, 1)) (ho : H[a]? = some (.array .long, l.map Value.long)) (hk : k ≤ a) (hH : H.set a (.array .long, (setA l j v).map Value.long) = H') :
    W ws dn k y bytes ret pc ls (.long v :: .int j :: .ref a :: st) H Q = (inB j l ∧ W ws dn k y bytes ret (pc + 1) ls st H' Q) := by
  by_cases h : inB j l
  · rw [w_ast (H' := H') hd rfl ho hk h.1 (by simpa using h.2) rfl (by rw [← hH, setA, List.map_set])]
    simp [h]
  · rw [W_stuck (st_stuck hd rfl ho (by simpa [inB] using h))]
    simp [h]
theorem w_div {ins : Instr} {f : Int32 → Int32 → Int32} {x z : Int32} (hd : decode bytes pc = .ok (ins, 1)) (hx : ∀ st, xstep ins 1 pc ls st = d2 f (pc + 1) ls st) (hh : hstep ws k y ins 1 pc (.int z :: .int x :: st) H = none) (hc : cstep ws dn y ret ins 1 pc ls (.int z :: .int x :: st) H = none) :
    W ws dn k y bytes ret pc ls (.int z :: .int x :: st) H Q = (z ≠ 0 ∧ W ws dn k y bytes ret (pc + 1) ls (.int (f x z) :: st) H Q) := by
  by_cases h : z = 0
  · rw [W_stuck (by rw [act_c hd (by rw [hx]; simp [d2, h]) hh, hc])]; simp [h]
  · rw [w_x (pc' := pc + 1) (ls' := ls) (st' := .int (f x z) :: st) hd (by rw [hx]; simp only [d2, h, if_false])]; simp [h]
/-- a field's array made in a constructor -/
theorem w_iarr {i j p1 p2 p3 : Nat} {C : String} {vs : List Value} {r : AHeap} {n : Int32} {v : Value} {aty : ArrayType} {ty at' : FieldType} {l0 : Slot} {lr : List Slot} {ins : Instr} {len : Nat} {b : Nat} (hl : l0 = .val (.ref b)) (hH : H.length = b) (hk : k ≤ b)
    (d0 : decode bytes pc = .ok (.aload_n 0, 1)) (e0 : pc + 1 = p1) (dn1 : decode bytes p1 = .ok (ins, len)) (hx : ∀ st, xstep ins len p1 (l0 :: lr) st = some (p2, l0 :: lr, v :: st)) (hv : v = .int n) (d2' : decode bytes p2 = .ok (.newarray aty, 2)) (ht : newarray.typeOf aty = ty) (hr : hasArr ws ty = true) (hn : ¬ n < 0) (hb : n.toNatClampNeg * 8 ≤ 536870912) (e3 : p2 + 2 = p3)
    (d3 : decode bytes p3 = .ok (.putfield i, 3)) (hp : pfR ws y.cls y.name i = some (C, j, .array at')) (hj : j < vs.length) :
    W ws dn k y bytes ret pc (l0 :: lr) [] (H ++ (.object C, vs) :: r) Q = W ws dn k y bytes ret (p3 + 3) (l0 :: lr) [] (H ++ (.object C, vs.set j (.ref (b + (r.length + 1)))) :: (r ++ [(.array ty, List.replicate n.toNatClampNeg (defaultValue ty))])) Q := by
  subst hl e0 e3 hv hH
  rw [w_x d0 (ls' := .val (.ref H.length) :: lr) (st' := [.ref H.length]) (pc' := pc + 1) rfl, w_x dn1 (hx _), w_newA d2' ht hr hn hb]
  have e1 : (H ++ (FieldType.object C, vs) :: r).length = H.length + (r.length + 1) := by simp
  rw [e1, w_put d3 hp (vs := vs) (H' := H ++ (.object C, vs.set j (.ref (H.length + (r.length + 1)))) :: (r ++ [(.array ty, List.replicate n.toNatClampNeg (defaultValue ty))])) (by simp) hk hj rfl (by simp)]
/-- a field's plain value put at a constructor's head -/
theorem w_iint {i j p1 p2 : Nat} {C : String} {vs : List Value} {r : AHeap} {v v0 v' : Value} {ty : FieldType} {l0 : Slot} {lr : List Slot} {ins : Instr} {len : Nat} {b : Nat} (hl : l0 = .val (.ref b)) (hH : H.length = b) (hk : k ≤ b)
    (d0 : decode bytes pc = .ok (.aload_n 0, 1)) (e0 : pc + 1 = p1) (dn1 : decode bytes p1 = .ok (ins, len)) (hx : ∀ st, xstep ins len p1 (l0 :: lr) st = some (p2, l0 :: lr, v0 :: st)) (hv : v0 = v)
    (d3 : decode bytes p2 = .ok (.putfield i, 3)) (hp : pfR ws y.cls y.name i = some (C, j, ty)) (hv' : putv ty v = some v') (hj : j < vs.length) :
    W ws dn k y bytes ret pc (l0 :: lr) [] (H ++ (.object C, vs) :: r) Q = W ws dn k y bytes ret (p2 + 3) (l0 :: lr) [] (H ++ (.object C, vs.set j v') :: r) Q := by
  subst hl e0 hv hH
  rw [w_x d0 (ls' := .val (.ref H.length) :: lr) (st' := [.ref H.length]) (pc' := pc + 1) rfl, w_x dn1 (hx _)]
  rw [w_put d3 hp (vs := vs) (H' := H ++ (.object C, vs.set j v') :: r) (by simp) hk hj hv' (by simp)]
end
end Jvm.Own
namespace Jvm.Own
open Sem ClassFile Op Lib Jvm.Stand Jvm.Free Jvm.LawKit Jvm.RoadKit
theorem getA_rep (n : Nat) (j : Int32) : getA (List.replicate n 0) j = 0 := by
  simp only [getA, List.getD_eq_getElem?_getD, List.getElem?_replicate]
  split <;> rfl
/-- the array's words as plain ints -/
theorem script_of {s : State} {a : Addr} {c : Cell} (hf : Fit s) (A : Arr s s.heap a c .int) (hl : c.slots.size < 2 ^ 31) : ∃ vs : List Int32, c.slots = (vs.map Value.int).toArray := by
  have h : ∀ v ∈ c.slots.toList, ∃ x : Int32, v = .int x := fun v hv => by
    obtain ⟨i, hi, e⟩ := List.getElem_of_mem hv
    have hi' : i < c.slots.size := by simpa using hi
    have e1 : (Nat.toInt32 i).toNatClampNeg = i := by simp only [Int32.toNatClampNeg, len_toInt (Nat.lt_trans hi' hl)]; rfl
    obtain ⟨w, h1, h2⟩ := elem_fit hf A (idx_in hi' hl)
    rw [e1] at h1
    have : w = v := by rw [Array.getElem?_eq_getElem hi'] at h1; rw [← e]; simpa using (Option.some.inj h1).symm
    subst this
    exact fit_I h2 (by simp)
  have g : ∀ l : List Value, (∀ v ∈ l, ∃ x : Int32, v = .int x) → ∃ vs : List Int32, l = vs.map Value.int := fun l => by
    induction l with
    | nil => exact fun _ => ⟨[], rfl⟩
    | cons v r ih =>
      intro q
      obtain ⟨x, rfl⟩ := q _ (List.mem_cons_self ..)
      obtain ⟨vs, e⟩ := ih fun w hw => q w (List.mem_cons_of_mem _ hw)
      exact ⟨x :: vs, by rw [e]; rfl⟩
  obtain ⟨vs, e⟩ := g _ h
  exact ⟨vs, by rw [← e]⟩
end Jvm.Own
namespace Jvm.Own
open Sem ClassFile Op Lib Jvm.Stand Jvm.Free Jvm.LawKit Jvm.RoadKit
/-! OWN 8: small facts on arrays and ints -/
theorem toNat_eq (j : Int32) : j.toNatClampNeg = j.toInt.toNat := rfl
theorem lt_i {x y : Int32} : x < y ↔ x.toInt < y.toInt := Int32.lt_iff_toInt_lt
theorem inB_iff {α : Type} {j : Int32} {l : List α} : inB j l ↔ 0 ≤ j.toInt ∧ j.toInt < (l.length : Int) := by
  have e0 : (0 : Int32).toInt = 0 := rfl
  unfold inB
  rw [lt_i, toNat_eq, e0]
  omega
theorem inB_lt {α : Type} {j n : Int32} {l : List α} (hl : (l.length : Int) = n.toInt) (h0 : ¬ j < 0) (h1 : j < n) : inB j l := by
  have e0 : (0 : Int32).toInt = 0 := rfl
  rw [inB_iff]
  rw [lt_i] at h0 h1
  rw [e0] at h0
  omega
theorem setA_len {α : Type} (l : List α) (j : Int32) (v : α) : (setA l j v).length = l.length := List.length_set
theorem getA_set {l : List Int32} {i j v : Int32} (h : inB i l) : getA (setA l i v) j = if j.toNatClampNeg = i.toNatClampNeg then v else getA l j := by
  simp only [getA, setA, List.getD_eq_getElem?_getD, List.getElem?_set]
  by_cases e : j.toNatClampNeg = i.toNatClampNeg
  · rw [e]; simp [h.2]
  · simp [e, Ne.symm e]
theorem getA_set2 (l : List Int32) (i j v : Int32) : getA (setA l i v) j = if j.toNatClampNeg = i.toNatClampNeg ∧ i.toNatClampNeg < l.length then v else getA l j := by
  simp only [getA, setA, List.getD_eq_getElem?_getD, List.getElem?_set]
  by_cases e : j.toNatClampNeg = i.toNatClampNeg
  · rw [e]
    by_cases q : i.toNatClampNeg < l.length <;> simp [q]
  · simp [e, Ne.symm e]
theorem len_ou {B A : Nat → List Int32} {j : Nat} {l : List Int32} (h : ∀ i, (A i).length = (B i).length) (hl : l.length = (B j).length) : ∀ i, (ou A j l i).length = (B i).length := fun i => by
  rw [ou_a]
  split
  · rename_i e; rw [e]; exact hl
  · exact h i
end Jvm.Own
namespace Jvm.Pilot.@@N@@
open Jvm Jvm.ClassFile Sem Op Lib Jvm.Free Jvm.Stand Jvm.LawKit Jvm.RoadKit Bundle Jvm.Own Jvm.Pilot.@@N@@.Jvm.D
/-- frames and words that each method asks -/
def dn : Dn := [(⟨"MacroAssembler", "<init>", "(I)V"⟩, 1, 12), (⟨"MacroAssembler", "feed", "(I)Z"⟩, 1, 13), (⟨"MacroAssembler", "validChar", "(I)Z"⟩, 0, 0), (⟨"MacroAssembler", "sourceLength", "()I"⟩, 0, 0), (⟨"MacroAssembler", "status", "()I"⟩, 0, 0), (⟨"MacroAssembler", "errorLine", "()I"⟩, 0, 0), (⟨"MacroAssembler", "imageLength", "()I"⟩, 0, 0), (⟨"MacroAssembler", "imageByte", "(I)I"⟩, 1, 13), (⟨"MacroAssembler", "resetResult", "()V"⟩, 0, 0), (⟨"MacroAssemblerL1", "law", "(III)Z"⟩, 2, 27)]
/- scalars: 0=T_IDENT 1=T_NUM 2=B_IF 3=B_REPT 4=B_CALL 5=M_NORMAL 6=M_DEFINING 7=M_SKIPPING 8=K_FALSE 9=K_ELSEPART 10=K_REPT0 11=KW_DB 12=KW_EQU 13=KW_MACRO 14=KW_ENDM 15=KW_IF 16=KW_ELSE 17=KW_ENDIF 18=KW_REPT 19=KW_ENDR 20=ARG_SLOT 21=cap 22=srcLen 23=nLines 24=status 25=errLine 26=imgLen 27=expCount 28=symN 29=lstLen 30=digFrom 31=macN 32=defMac 33=sp 34=curMac 35=curLine 36=curEnd 37=mode 38=skipKind 39=skipDepth 40=reads 41=loc 42=counter 43=hLine 44=err 45=done 46=lnLen 47=hasLabel 48=restAt 49=tkN 50=exConst 51=exUN 52=exUnknown 53=exDoom 54=fixN; arrays: 0=src@1 1=lineStart@2 2=lineEnd@3 3=img@4 4=symVal@6 5=lst@7 6=dig@8 7=macStart@10 8=macEnd@11 9=bType@12 10=bElse@13 11=bRemain@14 12=bRetMac@15 13=bRetLine@16 14=bK@17 15=bErr@18 16=bArgN@19 17=argLen@20 18=argCh@21 19=ln@22 20=tkType@23 21=tkVal@24 22=exUCoef@27 23=fixAddr@28 24=fixErr@29 25=fixConst@30 26=fixUN@31 27=fixDoom@32 28=fixUCoef@34; longs: ['labelCode']; long arrays: ['symCode', 'macCode', 'tkCode', 'exUCode', 'fixUCode'] -/
def objv (b : Nat) (s : Nat → Int32) (L : Nat → Int64) : List Value := [.int (s 0), .int (s 1), .int (s 2), .int (s 3), .int (s 4), .int (s 5), .int (s 6), .int (s 7), .int (s 8), .int (s 9), .int (s 10), .int (s 11), .int (s 12), .int (s 13), .int (s 14), .int (s 15), .int (s 16), .int (s 17), .int (s 18), .int (s 19), .int (s 20), .ref (b + 1), .ref (b + 2), .ref (b + 3), .ref (b + 4), .ref (b + 5), .ref (b + 6), .ref (b + 7), .ref (b + 8), .ref (b + 9), .ref (b + 10), .ref (b + 11), .ref (b + 12), .ref (b + 13), .ref (b + 14), .ref (b + 15), .ref (b + 16), .ref (b + 17), .ref (b + 18), .ref (b + 19), .ref (b + 20), .ref (b + 21), .ref (b + 22), .ref (b + 23), .ref (b + 24), .ref (b + 25), .ref (b + 26), .ref (b + 27), .ref (b + 28), .ref (b + 29), .ref (b + 30), .ref (b + 31), .ref (b + 32), .ref (b + 33), .ref (b + 34), .int (s 21), .int (s 22), .int (s 24), .int (s 26), .int (s 28), .int (s 27), .int (s 25), .int (s 29)]
def put (b : Nat) (pre : AHeap) (s : Nat → Int32) (A : Nat → List Int32) (L : Nat → Int64) (B : Nat → List Int64) (post : AHeap) : AHeap := pad b pre ++ ((.object "MacroAssembler", objv b s L) :: (.array .char, (A 0).map Value.int) :: (.array .int, (A 1).map Value.int) :: (.array .int, (A 2).map Value.int) :: (.array .int, (A 3).map Value.int) :: (.array .long, (B 0).map Value.long) :: (.array .int, (A 4).map Value.int) :: (.array .char, (A 5).map Value.int) :: (.array .char, (A 6).map Value.int) :: (.array .long, (B 1).map Value.long) :: (.array .int, (A 7).map Value.int) :: (.array .int, (A 8).map Value.int) :: (.array .int, (A 9).map Value.int) :: (.array .boolean, (A 10).map Value.int) :: (.array .int, (A 11).map Value.int) :: (.array .int, (A 12).map Value.int) :: (.array .int, (A 13).map Value.int) :: (.array .int, (A 14).map Value.int) :: (.array .int, (A 15).map Value.int) :: (.array .int, (A 16).map Value.int) :: (.array .int, (A 17).map Value.int) :: (.array .char, (A 18).map Value.int) :: (.array .char, (A 19).map Value.int) :: (.array .int, (A 20).map Value.int) :: (.array .int, (A 21).map Value.int) :: (.array .long, (B 2).map Value.long) :: (.array .long, (B 3).map Value.long) :: (.array .int, (A 22).map Value.int) :: (.array .int, (A 23).map Value.int) :: (.array .int, (A 24).map Value.int) :: (.array .int, (A 25).map Value.int) :: (.array .int, (A 26).map Value.int) :: (.array .boolean, (A 27).map Value.int) :: (.array .long, (B 4).map Value.long) :: (.array .int, (A 28).map Value.int) :: post)
theorem put_o {b : Nat} {pre : AHeap} {s : Nat → Int32} {A : Nat → List Int32} {L : Nat → Int64} {B : Nat → List Int64} {post : AHeap} : (put b pre s A L B post)[b]? = some (.object "MacroAssembler", objv b s L) := pad_get0 _ _ _
theorem put_a0 {b : Nat} {pre : AHeap} {s : Nat → Int32} {A : Nat → List Int32} {L : Nat → Int64} {B : Nat → List Int64} {post : AHeap} : (put b pre s A L B post)[b + 1]? = some (.array .char, (A 0).map Value.int) := pad_get _ _ _ 1
theorem put_w0 {b : Nat} {pre : AHeap} {s : Nat → Int32} {A : Nat → List Int32} {L : Nat → Int64} {B : Nat → List Int64} {post : AHeap} {l : List Int32} : (put b pre s A L B post).set (b + 1) (.array .char, l.map Value.int) = put b pre s (ou A 0 l) L B post := pad_set _ _ _ 1 _
theorem put_a1 {b : Nat} {pre : AHeap} {s : Nat → Int32} {A : Nat → List Int32} {L : Nat → Int64} {B : Nat → List Int64} {post : AHeap} : (put b pre s A L B post)[b + 2]? = some (.array .int, (A 1).map Value.int) := pad_get _ _ _ 2
theorem put_w1 {b : Nat} {pre : AHeap} {s : Nat → Int32} {A : Nat → List Int32} {L : Nat → Int64} {B : Nat → List Int64} {post : AHeap} {l : List Int32} : (put b pre s A L B post).set (b + 2) (.array .int, l.map Value.int) = put b pre s (ou A 1 l) L B post := pad_set _ _ _ 2 _
theorem put_a2 {b : Nat} {pre : AHeap} {s : Nat → Int32} {A : Nat → List Int32} {L : Nat → Int64} {B : Nat → List Int64} {post : AHeap} : (put b pre s A L B post)[b + 3]? = some (.array .int, (A 2).map Value.int) := pad_get _ _ _ 3
theorem put_w2 {b : Nat} {pre : AHeap} {s : Nat → Int32} {A : Nat → List Int32} {L : Nat → Int64} {B : Nat → List Int64} {post : AHeap} {l : List Int32} : (put b pre s A L B post).set (b + 3) (.array .int, l.map Value.int) = put b pre s (ou A 2 l) L B post := pad_set _ _ _ 3 _
theorem put_a3 {b : Nat} {pre : AHeap} {s : Nat → Int32} {A : Nat → List Int32} {L : Nat → Int64} {B : Nat → List Int64} {post : AHeap} : (put b pre s A L B post)[b + 4]? = some (.array .int, (A 3).map Value.int) := pad_get _ _ _ 4
theorem put_w3 {b : Nat} {pre : AHeap} {s : Nat → Int32} {A : Nat → List Int32} {L : Nat → Int64} {B : Nat → List Int64} {post : AHeap} {l : List Int32} : (put b pre s A L B post).set (b + 4) (.array .int, l.map Value.int) = put b pre s (ou A 3 l) L B post := pad_set _ _ _ 4 _
theorem put_l0 {b : Nat} {pre : AHeap} {s : Nat → Int32} {A : Nat → List Int32} {L : Nat → Int64} {B : Nat → List Int64} {post : AHeap} : (put b pre s A L B post)[b + 5]? = some (.array .long, (B 0).map Value.long) := pad_get _ _ _ 5
theorem put_lw0 {b : Nat} {pre : AHeap} {s : Nat → Int32} {A : Nat → List Int32} {L : Nat → Int64} {B : Nat → List Int64} {post : AHeap} {l : List Int64} : (put b pre s A L B post).set (b + 5) (.array .long, l.map Value.long) = put b pre s A L (ou B 0 l) post := pad_set _ _ _ 5 _
theorem put_a4 {b : Nat} {pre : AHeap} {s : Nat → Int32} {A : Nat → List Int32} {L : Nat → Int64} {B : Nat → List Int64} {post : AHeap} : (put b pre s A L B post)[b + 6]? = some (.array .int, (A 4).map Value.int) := pad_get _ _ _ 6
theorem put_w4 {b : Nat} {pre : AHeap} {s : Nat → Int32} {A : Nat → List Int32} {L : Nat → Int64} {B : Nat → List Int64} {post : AHeap} {l : List Int32} : (put b pre s A L B post).set (b + 6) (.array .int, l.map Value.int) = put b pre s (ou A 4 l) L B post := pad_set _ _ _ 6 _
theorem put_a5 {b : Nat} {pre : AHeap} {s : Nat → Int32} {A : Nat → List Int32} {L : Nat → Int64} {B : Nat → List Int64} {post : AHeap} : (put b pre s A L B post)[b + 7]? = some (.array .char, (A 5).map Value.int) := pad_get _ _ _ 7
theorem put_w5 {b : Nat} {pre : AHeap} {s : Nat → Int32} {A : Nat → List Int32} {L : Nat → Int64} {B : Nat → List Int64} {post : AHeap} {l : List Int32} : (put b pre s A L B post).set (b + 7) (.array .char, l.map Value.int) = put b pre s (ou A 5 l) L B post := pad_set _ _ _ 7 _
theorem put_a6 {b : Nat} {pre : AHeap} {s : Nat → Int32} {A : Nat → List Int32} {L : Nat → Int64} {B : Nat → List Int64} {post : AHeap} : (put b pre s A L B post)[b + 8]? = some (.array .char, (A 6).map Value.int) := pad_get _ _ _ 8
theorem put_w6 {b : Nat} {pre : AHeap} {s : Nat → Int32} {A : Nat → List Int32} {L : Nat → Int64} {B : Nat → List Int64} {post : AHeap} {l : List Int32} : (put b pre s A L B post).set (b + 8) (.array .char, l.map Value.int) = put b pre s (ou A 6 l) L B post := pad_set _ _ _ 8 _
theorem put_l1 {b : Nat} {pre : AHeap} {s : Nat → Int32} {A : Nat → List Int32} {L : Nat → Int64} {B : Nat → List Int64} {post : AHeap} : (put b pre s A L B post)[b + 9]? = some (.array .long, (B 1).map Value.long) := pad_get _ _ _ 9
theorem put_lw1 {b : Nat} {pre : AHeap} {s : Nat → Int32} {A : Nat → List Int32} {L : Nat → Int64} {B : Nat → List Int64} {post : AHeap} {l : List Int64} : (put b pre s A L B post).set (b + 9) (.array .long, l.map Value.long) = put b pre s A L (ou B 1 l) post := pad_set _ _ _ 9 _
theorem put_a7 {b : Nat} {pre : AHeap} {s : Nat → Int32} {A : Nat → List Int32} {L : Nat → Int64} {B : Nat → List Int64} {post : AHeap} : (put b pre s A L B post)[b + 10]? = some (.array .int, (A 7).map Value.int) := pad_get _ _ _ 10
theorem put_w7 {b : Nat} {pre : AHeap} {s : Nat → Int32} {A : Nat → List Int32} {L : Nat → Int64} {B : Nat → List Int64} {post : AHeap} {l : List Int32} : (put b pre s A L B post).set (b + 10) (.array .int, l.map Value.int) = put b pre s (ou A 7 l) L B post := pad_set _ _ _ 10 _
theorem put_a8 {b : Nat} {pre : AHeap} {s : Nat → Int32} {A : Nat → List Int32} {L : Nat → Int64} {B : Nat → List Int64} {post : AHeap} : (put b pre s A L B post)[b + 11]? = some (.array .int, (A 8).map Value.int) := pad_get _ _ _ 11
theorem put_w8 {b : Nat} {pre : AHeap} {s : Nat → Int32} {A : Nat → List Int32} {L : Nat → Int64} {B : Nat → List Int64} {post : AHeap} {l : List Int32} : (put b pre s A L B post).set (b + 11) (.array .int, l.map Value.int) = put b pre s (ou A 8 l) L B post := pad_set _ _ _ 11 _
theorem put_a9 {b : Nat} {pre : AHeap} {s : Nat → Int32} {A : Nat → List Int32} {L : Nat → Int64} {B : Nat → List Int64} {post : AHeap} : (put b pre s A L B post)[b + 12]? = some (.array .int, (A 9).map Value.int) := pad_get _ _ _ 12
theorem put_w9 {b : Nat} {pre : AHeap} {s : Nat → Int32} {A : Nat → List Int32} {L : Nat → Int64} {B : Nat → List Int64} {post : AHeap} {l : List Int32} : (put b pre s A L B post).set (b + 12) (.array .int, l.map Value.int) = put b pre s (ou A 9 l) L B post := pad_set _ _ _ 12 _
theorem put_a10 {b : Nat} {pre : AHeap} {s : Nat → Int32} {A : Nat → List Int32} {L : Nat → Int64} {B : Nat → List Int64} {post : AHeap} : (put b pre s A L B post)[b + 13]? = some (.array .boolean, (A 10).map Value.int) := pad_get _ _ _ 13
theorem put_w10 {b : Nat} {pre : AHeap} {s : Nat → Int32} {A : Nat → List Int32} {L : Nat → Int64} {B : Nat → List Int64} {post : AHeap} {l : List Int32} : (put b pre s A L B post).set (b + 13) (.array .boolean, l.map Value.int) = put b pre s (ou A 10 l) L B post := pad_set _ _ _ 13 _
theorem put_a11 {b : Nat} {pre : AHeap} {s : Nat → Int32} {A : Nat → List Int32} {L : Nat → Int64} {B : Nat → List Int64} {post : AHeap} : (put b pre s A L B post)[b + 14]? = some (.array .int, (A 11).map Value.int) := pad_get _ _ _ 14
theorem put_w11 {b : Nat} {pre : AHeap} {s : Nat → Int32} {A : Nat → List Int32} {L : Nat → Int64} {B : Nat → List Int64} {post : AHeap} {l : List Int32} : (put b pre s A L B post).set (b + 14) (.array .int, l.map Value.int) = put b pre s (ou A 11 l) L B post := pad_set _ _ _ 14 _
theorem put_a12 {b : Nat} {pre : AHeap} {s : Nat → Int32} {A : Nat → List Int32} {L : Nat → Int64} {B : Nat → List Int64} {post : AHeap} : (put b pre s A L B post)[b + 15]? = some (.array .int, (A 12).map Value.int) := pad_get _ _ _ 15
theorem put_w12 {b : Nat} {pre : AHeap} {s : Nat → Int32} {A : Nat → List Int32} {L : Nat → Int64} {B : Nat → List Int64} {post : AHeap} {l : List Int32} : (put b pre s A L B post).set (b + 15) (.array .int, l.map Value.int) = put b pre s (ou A 12 l) L B post := pad_set _ _ _ 15 _
theorem put_a13 {b : Nat} {pre : AHeap} {s : Nat → Int32} {A : Nat → List Int32} {L : Nat → Int64} {B : Nat → List Int64} {post : AHeap} : (put b pre s A L B post)[b + 16]? = some (.array .int, (A 13).map Value.int) := pad_get _ _ _ 16
theorem put_w13 {b : Nat} {pre : AHeap} {s : Nat → Int32} {A : Nat → List Int32} {L : Nat → Int64} {B : Nat → List Int64} {post : AHeap} {l : List Int32} : (put b pre s A L B post).set (b + 16) (.array .int, l.map Value.int) = put b pre s (ou A 13 l) L B post := pad_set _ _ _ 16 _
theorem put_a14 {b : Nat} {pre : AHeap} {s : Nat → Int32} {A : Nat → List Int32} {L : Nat → Int64} {B : Nat → List Int64} {post : AHeap} : (put b pre s A L B post)[b + 17]? = some (.array .int, (A 14).map Value.int) := pad_get _ _ _ 17
theorem put_w14 {b : Nat} {pre : AHeap} {s : Nat → Int32} {A : Nat → List Int32} {L : Nat → Int64} {B : Nat → List Int64} {post : AHeap} {l : List Int32} : (put b pre s A L B post).set (b + 17) (.array .int, l.map Value.int) = put b pre s (ou A 14 l) L B post := pad_set _ _ _ 17 _
theorem put_a15 {b : Nat} {pre : AHeap} {s : Nat → Int32} {A : Nat → List Int32} {L : Nat → Int64} {B : Nat → List Int64} {post : AHeap} : (put b pre s A L B post)[b + 18]? = some (.array .int, (A 15).map Value.int) := pad_get _ _ _ 18
theorem put_w15 {b : Nat} {pre : AHeap} {s : Nat → Int32} {A : Nat → List Int32} {L : Nat → Int64} {B : Nat → List Int64} {post : AHeap} {l : List Int32} : (put b pre s A L B post).set (b + 18) (.array .int, l.map Value.int) = put b pre s (ou A 15 l) L B post := pad_set _ _ _ 18 _
theorem put_a16 {b : Nat} {pre : AHeap} {s : Nat → Int32} {A : Nat → List Int32} {L : Nat → Int64} {B : Nat → List Int64} {post : AHeap} : (put b pre s A L B post)[b + 19]? = some (.array .int, (A 16).map Value.int) := pad_get _ _ _ 19
theorem put_w16 {b : Nat} {pre : AHeap} {s : Nat → Int32} {A : Nat → List Int32} {L : Nat → Int64} {B : Nat → List Int64} {post : AHeap} {l : List Int32} : (put b pre s A L B post).set (b + 19) (.array .int, l.map Value.int) = put b pre s (ou A 16 l) L B post := pad_set _ _ _ 19 _
theorem put_a17 {b : Nat} {pre : AHeap} {s : Nat → Int32} {A : Nat → List Int32} {L : Nat → Int64} {B : Nat → List Int64} {post : AHeap} : (put b pre s A L B post)[b + 20]? = some (.array .int, (A 17).map Value.int) := pad_get _ _ _ 20
theorem put_w17 {b : Nat} {pre : AHeap} {s : Nat → Int32} {A : Nat → List Int32} {L : Nat → Int64} {B : Nat → List Int64} {post : AHeap} {l : List Int32} : (put b pre s A L B post).set (b + 20) (.array .int, l.map Value.int) = put b pre s (ou A 17 l) L B post := pad_set _ _ _ 20 _
theorem put_a18 {b : Nat} {pre : AHeap} {s : Nat → Int32} {A : Nat → List Int32} {L : Nat → Int64} {B : Nat → List Int64} {post : AHeap} : (put b pre s A L B post)[b + 21]? = some (.array .char, (A 18).map Value.int) := pad_get _ _ _ 21
theorem put_w18 {b : Nat} {pre : AHeap} {s : Nat → Int32} {A : Nat → List Int32} {L : Nat → Int64} {B : Nat → List Int64} {post : AHeap} {l : List Int32} : (put b pre s A L B post).set (b + 21) (.array .char, l.map Value.int) = put b pre s (ou A 18 l) L B post := pad_set _ _ _ 21 _
theorem put_a19 {b : Nat} {pre : AHeap} {s : Nat → Int32} {A : Nat → List Int32} {L : Nat → Int64} {B : Nat → List Int64} {post : AHeap} : (put b pre s A L B post)[b + 22]? = some (.array .char, (A 19).map Value.int) := pad_get _ _ _ 22
theorem put_w19 {b : Nat} {pre : AHeap} {s : Nat → Int32} {A : Nat → List Int32} {L : Nat → Int64} {B : Nat → List Int64} {post : AHeap} {l : List Int32} : (put b pre s A L B post).set (b + 22) (.array .char, l.map Value.int) = put b pre s (ou A 19 l) L B post := pad_set _ _ _ 22 _
theorem put_a20 {b : Nat} {pre : AHeap} {s : Nat → Int32} {A : Nat → List Int32} {L : Nat → Int64} {B : Nat → List Int64} {post : AHeap} : (put b pre s A L B post)[b + 23]? = some (.array .int, (A 20).map Value.int) := pad_get _ _ _ 23
theorem put_w20 {b : Nat} {pre : AHeap} {s : Nat → Int32} {A : Nat → List Int32} {L : Nat → Int64} {B : Nat → List Int64} {post : AHeap} {l : List Int32} : (put b pre s A L B post).set (b + 23) (.array .int, l.map Value.int) = put b pre s (ou A 20 l) L B post := pad_set _ _ _ 23 _
theorem put_a21 {b : Nat} {pre : AHeap} {s : Nat → Int32} {A : Nat → List Int32} {L : Nat → Int64} {B : Nat → List Int64} {post : AHeap} : (put b pre s A L B post)[b + 24]? = some (.array .int, (A 21).map Value.int) := pad_get _ _ _ 24
theorem put_w21 {b : Nat} {pre : AHeap} {s : Nat → Int32} {A : Nat → List Int32} {L : Nat → Int64} {B : Nat → List Int64} {post : AHeap} {l : List Int32} : (put b pre s A L B post).set (b + 24) (.array .int, l.map Value.int) = put b pre s (ou A 21 l) L B post := pad_set _ _ _ 24 _
theorem put_l2 {b : Nat} {pre : AHeap} {s : Nat → Int32} {A : Nat → List Int32} {L : Nat → Int64} {B : Nat → List Int64} {post : AHeap} : (put b pre s A L B post)[b + 25]? = some (.array .long, (B 2).map Value.long) := pad_get _ _ _ 25
theorem put_lw2 {b : Nat} {pre : AHeap} {s : Nat → Int32} {A : Nat → List Int32} {L : Nat → Int64} {B : Nat → List Int64} {post : AHeap} {l : List Int64} : (put b pre s A L B post).set (b + 25) (.array .long, l.map Value.long) = put b pre s A L (ou B 2 l) post := pad_set _ _ _ 25 _
theorem put_l3 {b : Nat} {pre : AHeap} {s : Nat → Int32} {A : Nat → List Int32} {L : Nat → Int64} {B : Nat → List Int64} {post : AHeap} : (put b pre s A L B post)[b + 26]? = some (.array .long, (B 3).map Value.long) := pad_get _ _ _ 26
theorem put_lw3 {b : Nat} {pre : AHeap} {s : Nat → Int32} {A : Nat → List Int32} {L : Nat → Int64} {B : Nat → List Int64} {post : AHeap} {l : List Int64} : (put b pre s A L B post).set (b + 26) (.array .long, l.map Value.long) = put b pre s A L (ou B 3 l) post := pad_set _ _ _ 26 _
theorem put_a22 {b : Nat} {pre : AHeap} {s : Nat → Int32} {A : Nat → List Int32} {L : Nat → Int64} {B : Nat → List Int64} {post : AHeap} : (put b pre s A L B post)[b + 27]? = some (.array .int, (A 22).map Value.int) := pad_get _ _ _ 27
theorem put_w22 {b : Nat} {pre : AHeap} {s : Nat → Int32} {A : Nat → List Int32} {L : Nat → Int64} {B : Nat → List Int64} {post : AHeap} {l : List Int32} : (put b pre s A L B post).set (b + 27) (.array .int, l.map Value.int) = put b pre s (ou A 22 l) L B post := pad_set _ _ _ 27 _
theorem put_a23 {b : Nat} {pre : AHeap} {s : Nat → Int32} {A : Nat → List Int32} {L : Nat → Int64} {B : Nat → List Int64} {post : AHeap} : (put b pre s A L B post)[b + 28]? = some (.array .int, (A 23).map Value.int) := pad_get _ _ _ 28
theorem put_w23 {b : Nat} {pre : AHeap} {s : Nat → Int32} {A : Nat → List Int32} {L : Nat → Int64} {B : Nat → List Int64} {post : AHeap} {l : List Int32} : (put b pre s A L B post).set (b + 28) (.array .int, l.map Value.int) = put b pre s (ou A 23 l) L B post := pad_set _ _ _ 28 _
theorem put_a24 {b : Nat} {pre : AHeap} {s : Nat → Int32} {A : Nat → List Int32} {L : Nat → Int64} {B : Nat → List Int64} {post : AHeap} : (put b pre s A L B post)[b + 29]? = some (.array .int, (A 24).map Value.int) := pad_get _ _ _ 29
theorem put_w24 {b : Nat} {pre : AHeap} {s : Nat → Int32} {A : Nat → List Int32} {L : Nat → Int64} {B : Nat → List Int64} {post : AHeap} {l : List Int32} : (put b pre s A L B post).set (b + 29) (.array .int, l.map Value.int) = put b pre s (ou A 24 l) L B post := pad_set _ _ _ 29 _
theorem put_a25 {b : Nat} {pre : AHeap} {s : Nat → Int32} {A : Nat → List Int32} {L : Nat → Int64} {B : Nat → List Int64} {post : AHeap} : (put b pre s A L B post)[b + 30]? = some (.array .int, (A 25).map Value.int) := pad_get _ _ _ 30
theorem put_w25 {b : Nat} {pre : AHeap} {s : Nat → Int32} {A : Nat → List Int32} {L : Nat → Int64} {B : Nat → List Int64} {post : AHeap} {l : List Int32} : (put b pre s A L B post).set (b + 30) (.array .int, l.map Value.int) = put b pre s (ou A 25 l) L B post := pad_set _ _ _ 30 _
theorem put_a26 {b : Nat} {pre : AHeap} {s : Nat → Int32} {A : Nat → List Int32} {L : Nat → Int64} {B : Nat → List Int64} {post : AHeap} : (put b pre s A L B post)[b + 31]? = some (.array .int, (A 26).map Value.int) := pad_get _ _ _ 31
theorem put_w26 {b : Nat} {pre : AHeap} {s : Nat → Int32} {A : Nat → List Int32} {L : Nat → Int64} {B : Nat → List Int64} {post : AHeap} {l : List Int32} : (put b pre s A L B post).set (b + 31) (.array .int, l.map Value.int) = put b pre s (ou A 26 l) L B post := pad_set _ _ _ 31 _
theorem put_a27 {b : Nat} {pre : AHeap} {s : Nat → Int32} {A : Nat → List Int32} {L : Nat → Int64} {B : Nat → List Int64} {post : AHeap} : (put b pre s A L B post)[b + 32]? = some (.array .boolean, (A 27).map Value.int) := pad_get _ _ _ 32
theorem put_w27 {b : Nat} {pre : AHeap} {s : Nat → Int32} {A : Nat → List Int32} {L : Nat → Int64} {B : Nat → List Int64} {post : AHeap} {l : List Int32} : (put b pre s A L B post).set (b + 32) (.array .boolean, l.map Value.int) = put b pre s (ou A 27 l) L B post := pad_set _ _ _ 32 _
theorem put_l4 {b : Nat} {pre : AHeap} {s : Nat → Int32} {A : Nat → List Int32} {L : Nat → Int64} {B : Nat → List Int64} {post : AHeap} : (put b pre s A L B post)[b + 33]? = some (.array .long, (B 4).map Value.long) := pad_get _ _ _ 33
theorem put_lw4 {b : Nat} {pre : AHeap} {s : Nat → Int32} {A : Nat → List Int32} {L : Nat → Int64} {B : Nat → List Int64} {post : AHeap} {l : List Int64} : (put b pre s A L B post).set (b + 33) (.array .long, l.map Value.long) = put b pre s A L (ou B 4 l) post := pad_set _ _ _ 33 _
theorem put_a28 {b : Nat} {pre : AHeap} {s : Nat → Int32} {A : Nat → List Int32} {L : Nat → Int64} {B : Nat → List Int64} {post : AHeap} : (put b pre s A L B post)[b + 34]? = some (.array .int, (A 28).map Value.int) := pad_get _ _ _ 34
theorem put_w28 {b : Nat} {pre : AHeap} {s : Nat → Int32} {A : Nat → List Int32} {L : Nat → Int64} {B : Nat → List Int64} {post : AHeap} {l : List Int32} : (put b pre s A L B post).set (b + 34) (.array .int, l.map Value.int) = put b pre s (ou A 28 l) L B post := pad_set _ _ _ 34 _
theorem put_s0 {b : Nat} {pre : AHeap} {s : Nat → Int32} {A : Nat → List Int32} {L : Nat → Int64} {B : Nat → List Int64} {post : AHeap} {v : Int32} : (put b pre s A L B post).set b (.object "MacroAssembler", (objv b s L).set 0 (.int v)) = put b pre (ou s 0 v) A L B post := pad_set0 _ _ _ _
theorem put_s1 {b : Nat} {pre : AHeap} {s : Nat → Int32} {A : Nat → List Int32} {L : Nat → Int64} {B : Nat → List Int64} {post : AHeap} {v : Int32} : (put b pre s A L B post).set b (.object "MacroAssembler", (objv b s L).set 1 (.int v)) = put b pre (ou s 1 v) A L B post := pad_set0 _ _ _ _
theorem put_s2 {b : Nat} {pre : AHeap} {s : Nat → Int32} {A : Nat → List Int32} {L : Nat → Int64} {B : Nat → List Int64} {post : AHeap} {v : Int32} : (put b pre s A L B post).set b (.object "MacroAssembler", (objv b s L).set 2 (.int v)) = put b pre (ou s 2 v) A L B post := pad_set0 _ _ _ _
theorem put_s3 {b : Nat} {pre : AHeap} {s : Nat → Int32} {A : Nat → List Int32} {L : Nat → Int64} {B : Nat → List Int64} {post : AHeap} {v : Int32} : (put b pre s A L B post).set b (.object "MacroAssembler", (objv b s L).set 3 (.int v)) = put b pre (ou s 3 v) A L B post := pad_set0 _ _ _ _
theorem put_s4 {b : Nat} {pre : AHeap} {s : Nat → Int32} {A : Nat → List Int32} {L : Nat → Int64} {B : Nat → List Int64} {post : AHeap} {v : Int32} : (put b pre s A L B post).set b (.object "MacroAssembler", (objv b s L).set 4 (.int v)) = put b pre (ou s 4 v) A L B post := pad_set0 _ _ _ _
theorem put_s5 {b : Nat} {pre : AHeap} {s : Nat → Int32} {A : Nat → List Int32} {L : Nat → Int64} {B : Nat → List Int64} {post : AHeap} {v : Int32} : (put b pre s A L B post).set b (.object "MacroAssembler", (objv b s L).set 5 (.int v)) = put b pre (ou s 5 v) A L B post := pad_set0 _ _ _ _
theorem put_s6 {b : Nat} {pre : AHeap} {s : Nat → Int32} {A : Nat → List Int32} {L : Nat → Int64} {B : Nat → List Int64} {post : AHeap} {v : Int32} : (put b pre s A L B post).set b (.object "MacroAssembler", (objv b s L).set 6 (.int v)) = put b pre (ou s 6 v) A L B post := pad_set0 _ _ _ _
theorem put_s7 {b : Nat} {pre : AHeap} {s : Nat → Int32} {A : Nat → List Int32} {L : Nat → Int64} {B : Nat → List Int64} {post : AHeap} {v : Int32} : (put b pre s A L B post).set b (.object "MacroAssembler", (objv b s L).set 7 (.int v)) = put b pre (ou s 7 v) A L B post := pad_set0 _ _ _ _
theorem put_s8 {b : Nat} {pre : AHeap} {s : Nat → Int32} {A : Nat → List Int32} {L : Nat → Int64} {B : Nat → List Int64} {post : AHeap} {v : Int32} : (put b pre s A L B post).set b (.object "MacroAssembler", (objv b s L).set 8 (.int v)) = put b pre (ou s 8 v) A L B post := pad_set0 _ _ _ _
theorem put_s9 {b : Nat} {pre : AHeap} {s : Nat → Int32} {A : Nat → List Int32} {L : Nat → Int64} {B : Nat → List Int64} {post : AHeap} {v : Int32} : (put b pre s A L B post).set b (.object "MacroAssembler", (objv b s L).set 9 (.int v)) = put b pre (ou s 9 v) A L B post := pad_set0 _ _ _ _
theorem put_s10 {b : Nat} {pre : AHeap} {s : Nat → Int32} {A : Nat → List Int32} {L : Nat → Int64} {B : Nat → List Int64} {post : AHeap} {v : Int32} : (put b pre s A L B post).set b (.object "MacroAssembler", (objv b s L).set 10 (.int v)) = put b pre (ou s 10 v) A L B post := pad_set0 _ _ _ _
theorem put_s11 {b : Nat} {pre : AHeap} {s : Nat → Int32} {A : Nat → List Int32} {L : Nat → Int64} {B : Nat → List Int64} {post : AHeap} {v : Int32} : (put b pre s A L B post).set b (.object "MacroAssembler", (objv b s L).set 11 (.int v)) = put b pre (ou s 11 v) A L B post := pad_set0 _ _ _ _
theorem put_s12 {b : Nat} {pre : AHeap} {s : Nat → Int32} {A : Nat → List Int32} {L : Nat → Int64} {B : Nat → List Int64} {post : AHeap} {v : Int32} : (put b pre s A L B post).set b (.object "MacroAssembler", (objv b s L).set 12 (.int v)) = put b pre (ou s 12 v) A L B post := pad_set0 _ _ _ _
theorem put_s13 {b : Nat} {pre : AHeap} {s : Nat → Int32} {A : Nat → List Int32} {L : Nat → Int64} {B : Nat → List Int64} {post : AHeap} {v : Int32} : (put b pre s A L B post).set b (.object "MacroAssembler", (objv b s L).set 13 (.int v)) = put b pre (ou s 13 v) A L B post := pad_set0 _ _ _ _
theorem put_s14 {b : Nat} {pre : AHeap} {s : Nat → Int32} {A : Nat → List Int32} {L : Nat → Int64} {B : Nat → List Int64} {post : AHeap} {v : Int32} : (put b pre s A L B post).set b (.object "MacroAssembler", (objv b s L).set 14 (.int v)) = put b pre (ou s 14 v) A L B post := pad_set0 _ _ _ _
theorem put_s15 {b : Nat} {pre : AHeap} {s : Nat → Int32} {A : Nat → List Int32} {L : Nat → Int64} {B : Nat → List Int64} {post : AHeap} {v : Int32} : (put b pre s A L B post).set b (.object "MacroAssembler", (objv b s L).set 15 (.int v)) = put b pre (ou s 15 v) A L B post := pad_set0 _ _ _ _
theorem put_s16 {b : Nat} {pre : AHeap} {s : Nat → Int32} {A : Nat → List Int32} {L : Nat → Int64} {B : Nat → List Int64} {post : AHeap} {v : Int32} : (put b pre s A L B post).set b (.object "MacroAssembler", (objv b s L).set 16 (.int v)) = put b pre (ou s 16 v) A L B post := pad_set0 _ _ _ _
theorem put_s17 {b : Nat} {pre : AHeap} {s : Nat → Int32} {A : Nat → List Int32} {L : Nat → Int64} {B : Nat → List Int64} {post : AHeap} {v : Int32} : (put b pre s A L B post).set b (.object "MacroAssembler", (objv b s L).set 17 (.int v)) = put b pre (ou s 17 v) A L B post := pad_set0 _ _ _ _
theorem put_s18 {b : Nat} {pre : AHeap} {s : Nat → Int32} {A : Nat → List Int32} {L : Nat → Int64} {B : Nat → List Int64} {post : AHeap} {v : Int32} : (put b pre s A L B post).set b (.object "MacroAssembler", (objv b s L).set 18 (.int v)) = put b pre (ou s 18 v) A L B post := pad_set0 _ _ _ _
theorem put_s19 {b : Nat} {pre : AHeap} {s : Nat → Int32} {A : Nat → List Int32} {L : Nat → Int64} {B : Nat → List Int64} {post : AHeap} {v : Int32} : (put b pre s A L B post).set b (.object "MacroAssembler", (objv b s L).set 19 (.int v)) = put b pre (ou s 19 v) A L B post := pad_set0 _ _ _ _
theorem put_s20 {b : Nat} {pre : AHeap} {s : Nat → Int32} {A : Nat → List Int32} {L : Nat → Int64} {B : Nat → List Int64} {post : AHeap} {v : Int32} : (put b pre s A L B post).set b (.object "MacroAssembler", (objv b s L).set 20 (.int v)) = put b pre (ou s 20 v) A L B post := pad_set0 _ _ _ _
theorem put_s21 {b : Nat} {pre : AHeap} {s : Nat → Int32} {A : Nat → List Int32} {L : Nat → Int64} {B : Nat → List Int64} {post : AHeap} {v : Int32} : (put b pre s A L B post).set b (.object "MacroAssembler", (objv b s L).set 55 (.int v)) = put b pre (ou s 21 v) A L B post := pad_set0 _ _ _ _
theorem put_s22 {b : Nat} {pre : AHeap} {s : Nat → Int32} {A : Nat → List Int32} {L : Nat → Int64} {B : Nat → List Int64} {post : AHeap} {v : Int32} : (put b pre s A L B post).set b (.object "MacroAssembler", (objv b s L).set 56 (.int v)) = put b pre (ou s 22 v) A L B post := pad_set0 _ _ _ _
theorem put_s24 {b : Nat} {pre : AHeap} {s : Nat → Int32} {A : Nat → List Int32} {L : Nat → Int64} {B : Nat → List Int64} {post : AHeap} {v : Int32} : (put b pre s A L B post).set b (.object "MacroAssembler", (objv b s L).set 57 (.int v)) = put b pre (ou s 24 v) A L B post := pad_set0 _ _ _ _
theorem put_s26 {b : Nat} {pre : AHeap} {s : Nat → Int32} {A : Nat → List Int32} {L : Nat → Int64} {B : Nat → List Int64} {post : AHeap} {v : Int32} : (put b pre s A L B post).set b (.object "MacroAssembler", (objv b s L).set 58 (.int v)) = put b pre (ou s 26 v) A L B post := pad_set0 _ _ _ _
theorem put_s28 {b : Nat} {pre : AHeap} {s : Nat → Int32} {A : Nat → List Int32} {L : Nat → Int64} {B : Nat → List Int64} {post : AHeap} {v : Int32} : (put b pre s A L B post).set b (.object "MacroAssembler", (objv b s L).set 59 (.int v)) = put b pre (ou s 28 v) A L B post := pad_set0 _ _ _ _
theorem put_s27 {b : Nat} {pre : AHeap} {s : Nat → Int32} {A : Nat → List Int32} {L : Nat → Int64} {B : Nat → List Int64} {post : AHeap} {v : Int32} : (put b pre s A L B post).set b (.object "MacroAssembler", (objv b s L).set 60 (.int v)) = put b pre (ou s 27 v) A L B post := pad_set0 _ _ _ _
theorem put_s25 {b : Nat} {pre : AHeap} {s : Nat → Int32} {A : Nat → List Int32} {L : Nat → Int64} {B : Nat → List Int64} {post : AHeap} {v : Int32} : (put b pre s A L B post).set b (.object "MacroAssembler", (objv b s L).set 61 (.int v)) = put b pre (ou s 25 v) A L B post := pad_set0 _ _ _ _
theorem put_s29 {b : Nat} {pre : AHeap} {s : Nat → Int32} {A : Nat → List Int32} {L : Nat → Int64} {B : Nat → List Int64} {post : AHeap} {v : Int32} : (put b pre s A L B post).set b (.object "MacroAssembler", (objv b s L).set 62 (.int v)) = put b pre (ou s 29 v) A L B post := pad_set0 _ _ _ _
theorem put_len {b : Nat} {pre : AHeap} {s : Nat → Int32} {A : Nat → List Int32} {L : Nat → Int64} {B : Nat → List Int64} {post : AHeap} : (put b pre s A L B post).length = b + 35 + post.length := by rw [put, List.length_append, pad_len]; simp only [List.length_cons]; omega
theorem inst0 : rInst tables_1 "MacroAssembler" = some 90 := by decide +kernel
theorem put_tot {b : Nat} {pre : AHeap} {s : Nat → Int32} {A : Nat → List Int32} {L : Nat → Int64} {B : Nat → List Int64} {post : AHeap} : tot tables_1 (put b pre s A L B post) = tot tables_1 (pad b pre) + (90 + ((A 0).length + ((A 1).length + ((A 2).length + ((A 3).length + ((B 0).length + ((A 4).length + ((A 5).length + ((A 6).length + ((B 1).length + ((A 7).length + ((A 8).length + ((A 9).length + ((A 10).length + ((A 11).length + ((A 12).length + ((A 13).length + ((A 14).length + ((A 15).length + ((A 16).length + ((A 17).length + ((A 18).length + ((A 19).length + ((A 20).length + ((A 21).length + ((B 2).length + ((B 3).length + ((A 22).length + ((A 23).length + ((A 24).length + ((A 25).length + ((A 26).length + ((A 27).length + ((B 4).length + ((A 28).length + tot tables_1 post))))))))))))))))))))))))))))))))))) := by rw [put, tot_append]; simp only [tot_cons, cost, List.length_map, inst0, Option.getD_some]
def D0 : List Value := [.int 0, .int 0, .int 0, .int 0, .int 0, .int 0, .int 0, .int 0, .int 0, .int 0, .int 0, .int 0, .int 0, .int 0, .int 0, .int 0, .int 0, .int 0, .int 0, .int 0, .int 0, .null, .null, .null, .null, .null, .null, .null, .null, .null, .null, .null, .null, .null, .null, .null, .null, .null, .null, .null, .null, .null, .null, .null, .null, .null, .null, .null, .null, .null, .null, .null, .null, .null, .null, .int 0, .int 0, .int 0, .int 0, .int 0, .int 0, .int 0, .int 0]
theorem lay0 : (olay tables_1 "MacroAssembler").map dflt = D0 := by decide +kernel
abbrev y0 : MethodName := ⟨"MacroAssembler", "<init>", "(I)V"⟩
abbrev kb0 : ByteArray := prog_1_method_1_code
def M0 (pc : Nat) (ls : List Slot) (st : List Value) (H : AHeap) (Q : Option Value → AHeap → Prop) : Prop := W tables_1 dn 0 y0 prog_1_method_1_code none pc ls st H Q
abbrev y1 : MethodName := ⟨"MacroAssembler", "feed", "(I)Z"⟩
abbrev kb1 : ByteArray := prog_1_method_2_code
def M1 (pc : Nat) (ls : List Slot) (st : List Value) (H : AHeap) (Q : Option Value → AHeap → Prop) : Prop := W tables_1 dn 0 y1 prog_1_method_2_code (some .boolean) pc ls st H Q
abbrev y2 : MethodName := ⟨"MacroAssembler", "validChar", "(I)Z"⟩
abbrev kb2 : ByteArray := prog_1_method_18_code
def M2 (pc : Nat) (ls : List Slot) (st : List Value) (H : AHeap) (Q : Option Value → AHeap → Prop) : Prop := W tables_1 dn 0 y2 prog_1_method_18_code (some .boolean) pc ls st H Q
abbrev y3 : MethodName := ⟨"MacroAssembler", "sourceLength", "()I"⟩
abbrev kb3 : ByteArray := prog_1_method_8_code
def M3 (pc : Nat) (ls : List Slot) (st : List Value) (H : AHeap) (Q : Option Value → AHeap → Prop) : Prop := W tables_1 dn 0 y3 prog_1_method_8_code (some .int) pc ls st H Q
abbrev y4 : MethodName := ⟨"MacroAssembler", "status", "()I"⟩
abbrev kb4 : ByteArray := prog_1_method_6_code
def M4 (pc : Nat) (ls : List Slot) (st : List Value) (H : AHeap) (Q : Option Value → AHeap → Prop) : Prop := W tables_1 dn 0 y4 prog_1_method_6_code (some .int) pc ls st H Q
abbrev y5 : MethodName := ⟨"MacroAssembler", "errorLine", "()I"⟩
abbrev kb5 : ByteArray := prog_1_method_7_code
def M5 (pc : Nat) (ls : List Slot) (st : List Value) (H : AHeap) (Q : Option Value → AHeap → Prop) : Prop := W tables_1 dn 0 y5 prog_1_method_7_code (some .int) pc ls st H Q
abbrev y6 : MethodName := ⟨"MacroAssembler", "imageLength", "()I"⟩
abbrev kb6 : ByteArray := prog_1_method_9_code
def M6 (pc : Nat) (ls : List Slot) (st : List Value) (H : AHeap) (Q : Option Value → AHeap → Prop) : Prop := W tables_1 dn 0 y6 prog_1_method_9_code (some .int) pc ls st H Q
abbrev y7 : MethodName := ⟨"MacroAssembler", "imageByte", "(I)I"⟩
abbrev kb7 : ByteArray := prog_1_method_10_code
def M7 (pc : Nat) (ls : List Slot) (st : List Value) (H : AHeap) (Q : Option Value → AHeap → Prop) : Prop := W tables_1 dn 0 y7 prog_1_method_10_code (some .int) pc ls st H Q
abbrev y8 : MethodName := ⟨"MacroAssembler", "resetResult", "()V"⟩
abbrev kb8 : ByteArray := prog_1_method_20_code
def M8 (pc : Nat) (ls : List Slot) (st : List Value) (H : AHeap) (Q : Option Value → AHeap → Prop) : Prop := W tables_1 dn 0 y8 prog_1_method_20_code none pc ls st H Q
abbrev y9 : MethodName := ⟨"MacroAssemblerL1", "law", "(III)Z"⟩
abbrev kb9 : ByteArray := code
def M9 (pc : Nat) (ls : List Slot) (st : List Value) (H : AHeap) (Q : Option Value → AHeap → Prop) : Prop := W tables_1 dn 0 y9 code (some .boolean) pc ls st H Q
theorem dn_0 : dnOf dn y0 = some (1, 12) := by decide +kernel
theorem rc_0 : rCode tables_1 y0 = some (prog_1_method_1_code, 3, none) := rCode_of (i := 5) rfl (by decide +kernel)
theorem dn_1 : dnOf dn y1 = some (1, 13) := by decide +kernel
theorem rc_1 : rCode tables_1 y1 = some (prog_1_method_2_code, 2, some .boolean) := rCode_of (i := 129) rfl (by decide +kernel)
theorem dn_2 : dnOf dn y2 = some (0, 0) := by decide +kernel
theorem rc_2 : rCode tables_1 y2 = some (prog_1_method_18_code, 2, some .boolean) := rCode_of (i := 133) rfl (by decide +kernel)
theorem dn_3 : dnOf dn y3 = some (0, 0) := by decide +kernel
theorem rc_3 : rCode tables_1 y3 = some (prog_1_method_8_code, 1, some .int) := rCode_of (i := 138) rfl (by decide +kernel)
theorem dn_4 : dnOf dn y4 = some (0, 0) := by decide +kernel
theorem rc_4 : rCode tables_1 y4 = some (prog_1_method_6_code, 1, some .int) := rCode_of (i := 145) rfl (by decide +kernel)
theorem dn_5 : dnOf dn y5 = some (0, 0) := by decide +kernel
theorem rc_5 : rCode tables_1 y5 = some (prog_1_method_7_code, 1, some .int) := rCode_of (i := 152) rfl (by decide +kernel)
theorem dn_6 : dnOf dn y6 = some (0, 0) := by decide +kernel
theorem rc_6 : rCode tables_1 y6 = some (prog_1_method_9_code, 1, some .int) := rCode_of (i := 157) rfl (by decide +kernel)
theorem dn_7 : dnOf dn y7 = some (1, 13) := by decide +kernel
theorem rc_7 : rCode tables_1 y7 = some (prog_1_method_10_code, 2, some .int) := rCode_of (i := 162) rfl (by decide +kernel)
theorem dn_8 : dnOf dn y8 = some (0, 0) := by decide +kernel
theorem rc_8 : rCode tables_1 y8 = some (prog_1_method_20_code, 1, none) := rCode_of (i := 167) rfl (by decide +kernel)
theorem dn_9 : dnOf dn y9 = some (2, 27) := by decide +kernel
theorem gf_7 : gfR tables_1 "MacroAssembler" 7 = some ("MacroAssembler", 0) := by decide +kernel
theorem gf_13 : gfR tables_1 "MacroAssembler" 13 = some ("MacroAssembler", 1) := by decide +kernel
theorem gf_16 : gfR tables_1 "MacroAssembler" 16 = some ("MacroAssembler", 2) := by decide +kernel
theorem gf_19 : gfR tables_1 "MacroAssembler" 19 = some ("MacroAssembler", 3) := by decide +kernel
theorem gf_22 : gfR tables_1 "MacroAssembler" 22 = some ("MacroAssembler", 4) := by decide +kernel
theorem gf_25 : gfR tables_1 "MacroAssembler" 25 = some ("MacroAssembler", 5) := by decide +kernel
theorem gf_28 : gfR tables_1 "MacroAssembler" 28 = some ("MacroAssembler", 6) := by decide +kernel
theorem gf_31 : gfR tables_1 "MacroAssembler" 31 = some ("MacroAssembler", 7) := by decide +kernel
theorem gf_34 : gfR tables_1 "MacroAssembler" 34 = some ("MacroAssembler", 8) := by decide +kernel
theorem gf_37 : gfR tables_1 "MacroAssembler" 37 = some ("MacroAssembler", 9) := by decide +kernel
theorem gf_40 : gfR tables_1 "MacroAssembler" 40 = some ("MacroAssembler", 10) := by decide +kernel
theorem gf_43 : gfR tables_1 "MacroAssembler" 43 = some ("MacroAssembler", 11) := by decide +kernel
theorem gf_46 : gfR tables_1 "MacroAssembler" 46 = some ("MacroAssembler", 12) := by decide +kernel
theorem gf_49 : gfR tables_1 "MacroAssembler" 49 = some ("MacroAssembler", 13) := by decide +kernel
theorem gf_52 : gfR tables_1 "MacroAssembler" 52 = some ("MacroAssembler", 14) := by decide +kernel
theorem gf_55 : gfR tables_1 "MacroAssembler" 55 = some ("MacroAssembler", 15) := by decide +kernel
theorem gf_58 : gfR tables_1 "MacroAssembler" 58 = some ("MacroAssembler", 16) := by decide +kernel
theorem gf_61 : gfR tables_1 "MacroAssembler" 61 = some ("MacroAssembler", 17) := by decide +kernel
theorem gf_64 : gfR tables_1 "MacroAssembler" 64 = some ("MacroAssembler", 18) := by decide +kernel
theorem gf_67 : gfR tables_1 "MacroAssembler" 67 = some ("MacroAssembler", 19) := by decide +kernel
theorem gf_70 : gfR tables_1 "MacroAssembler" 70 = some ("MacroAssembler", 20) := by decide +kernel
theorem gf_73 : gfR tables_1 "MacroAssembler" 73 = some ("MacroAssembler", 21) := by decide +kernel
theorem gf_77 : gfR tables_1 "MacroAssembler" 77 = some ("MacroAssembler", 22) := by decide +kernel
theorem gf_81 : gfR tables_1 "MacroAssembler" 81 = some ("MacroAssembler", 23) := by decide +kernel
theorem gf_84 : gfR tables_1 "MacroAssembler" 84 = some ("MacroAssembler", 24) := by decide +kernel
theorem gf_87 : gfR tables_1 "MacroAssembler" 87 = some ("MacroAssembler", 25) := by decide +kernel
theorem gf_91 : gfR tables_1 "MacroAssembler" 91 = some ("MacroAssembler", 26) := by decide +kernel
theorem gf_94 : gfR tables_1 "MacroAssembler" 94 = some ("MacroAssembler", 27) := by decide +kernel
theorem gf_97 : gfR tables_1 "MacroAssembler" 97 = some ("MacroAssembler", 28) := by decide +kernel
theorem gf_100 : gfR tables_1 "MacroAssembler" 100 = some ("MacroAssembler", 29) := by decide +kernel
theorem gf_103 : gfR tables_1 "MacroAssembler" 103 = some ("MacroAssembler", 30) := by decide +kernel
theorem gf_106 : gfR tables_1 "MacroAssembler" 106 = some ("MacroAssembler", 31) := by decide +kernel
theorem gf_109 : gfR tables_1 "MacroAssembler" 109 = some ("MacroAssembler", 32) := by decide +kernel
theorem gf_112 : gfR tables_1 "MacroAssembler" 112 = some ("MacroAssembler", 33) := by decide +kernel
theorem gf_116 : gfR tables_1 "MacroAssembler" 116 = some ("MacroAssembler", 34) := by decide +kernel
theorem gf_119 : gfR tables_1 "MacroAssembler" 119 = some ("MacroAssembler", 35) := by decide +kernel
theorem gf_122 : gfR tables_1 "MacroAssembler" 122 = some ("MacroAssembler", 36) := by decide +kernel
theorem gf_125 : gfR tables_1 "MacroAssembler" 125 = some ("MacroAssembler", 37) := by decide +kernel
theorem gf_128 : gfR tables_1 "MacroAssembler" 128 = some ("MacroAssembler", 38) := by decide +kernel
theorem gf_131 : gfR tables_1 "MacroAssembler" 131 = some ("MacroAssembler", 39) := by decide +kernel
theorem gf_134 : gfR tables_1 "MacroAssembler" 134 = some ("MacroAssembler", 40) := by decide +kernel
theorem gf_137 : gfR tables_1 "MacroAssembler" 137 = some ("MacroAssembler", 41) := by decide +kernel
theorem gf_140 : gfR tables_1 "MacroAssembler" 140 = some ("MacroAssembler", 42) := by decide +kernel
theorem gf_143 : gfR tables_1 "MacroAssembler" 143 = some ("MacroAssembler", 43) := by decide +kernel
theorem gf_146 : gfR tables_1 "MacroAssembler" 146 = some ("MacroAssembler", 44) := by decide +kernel
theorem gf_149 : gfR tables_1 "MacroAssembler" 149 = some ("MacroAssembler", 45) := by decide +kernel
theorem gf_152 : gfR tables_1 "MacroAssembler" 152 = some ("MacroAssembler", 46) := by decide +kernel
theorem gf_155 : gfR tables_1 "MacroAssembler" 155 = some ("MacroAssembler", 47) := by decide +kernel
theorem gf_158 : gfR tables_1 "MacroAssembler" 158 = some ("MacroAssembler", 48) := by decide +kernel
theorem gf_161 : gfR tables_1 "MacroAssembler" 161 = some ("MacroAssembler", 49) := by decide +kernel
theorem gf_164 : gfR tables_1 "MacroAssembler" 164 = some ("MacroAssembler", 50) := by decide +kernel
theorem gf_167 : gfR tables_1 "MacroAssembler" 167 = some ("MacroAssembler", 51) := by decide +kernel
theorem gf_170 : gfR tables_1 "MacroAssembler" 170 = some ("MacroAssembler", 52) := by decide +kernel
theorem gf_173 : gfR tables_1 "MacroAssembler" 173 = some ("MacroAssembler", 53) := by decide +kernel
theorem gf_176 : gfR tables_1 "MacroAssembler" 176 = some ("MacroAssembler", 54) := by decide +kernel
theorem gf_179 : gfR tables_1 "MacroAssembler" 179 = some ("MacroAssembler", 55) := by decide +kernel
theorem gf_186 : gfR tables_1 "MacroAssembler" 186 = some ("MacroAssembler", 56) := by decide +kernel
theorem gf_221 : gfR tables_1 "MacroAssembler" 221 = some ("MacroAssembler", 57) := by decide +kernel
theorem gf_224 : gfR tables_1 "MacroAssembler" 224 = some ("MacroAssembler", 61) := by decide +kernel
theorem gf_227 : gfR tables_1 "MacroAssembler" 227 = some ("MacroAssembler", 58) := by decide +kernel
theorem gf_230 : gfR tables_1 "MacroAssembler" 230 = some ("MacroAssembler", 59) := by decide +kernel
theorem gf_233 : gfR tables_1 "MacroAssembler" 233 = some ("MacroAssembler", 60) := by decide +kernel
theorem gf_236 : gfR tables_1 "MacroAssembler" 236 = some ("MacroAssembler", 62) := by decide +kernel
section Rules
variable {b r q : Nat} {pre : AHeap} {s : Nat → Int32} {A : Nat → List Int32} {L : Nat → Int64} {B : Nat → List Int64} {post : AHeap} {ls : List Slot} {st : List Value} {H R : AHeap} {Q : Option Value → AHeap → Prop} {x y v z j : Int32} {J1 J2 : Int64} {sc : List Int32} {l0 l1 l2 l3 l4 l5 l6 : Slot}
theorem m0_0 : M0 0 [.val (.ref r), l1, l2] st H Q = M0 1 [.val (.ref r), l1, l2] (.ref r :: st) H Q := w_x (show decode kb0 0 = .ok (.aload_n 0, 1) from by decide +kernel) rfl
theorem m0_1 : M0 1 ls [.ref r] H Q = M0 4 ls [] H Q := w_obj (show decode kb0 1 = .ok (.invokespecial 1, 3) from by decide +kernel) (sl := 0) (by decide +kernel) (by decide)
theorem m0_4 : M0 4 [.val (.ref r), l1, l2] st H Q = M0 5 [.val (.ref r), l1, l2] (.ref r :: st) H Q := w_x (show decode kb0 4 = .ok (.aload_n 0, 1) from by decide +kernel) rfl
theorem m0_5 : M0 5 ls st H Q = M0 6 ls (.int 1 :: st) H Q := w_con (show decode kb0 5 = .ok (.iconst 1, 1) from by decide +kernel) rfl (by decide)
theorem pf0_7 : pfR tables_1 y0.cls y0.name 7 = some ("MacroAssembler", 0, .int) := by decide +kernel
theorem m0_6 : M0 6 ls (.int v :: .ref b :: st) (put b pre s A L B post) Q = M0 9 ls st (put b pre (ou s 0 v) A L B post) Q := w_put (show decode kb0 6 = .ok (.putfield 7, 3) from by decide +kernel) pf0_7 put_o (Nat.zero_le _) (by show 0 < 63; omega) rfl put_s0
theorem m0_9 : M0 9 [.val (.ref r), l1, l2] st H Q = M0 10 [.val (.ref r), l1, l2] (.ref r :: st) H Q := w_x (show decode kb0 9 = .ok (.aload_n 0, 1) from by decide +kernel) rfl
theorem m0_10 : M0 10 ls st H Q = M0 11 ls (.int 2 :: st) H Q := w_con (show decode kb0 10 = .ok (.iconst 2, 1) from by decide +kernel) rfl (by decide)
theorem pf0_13 : pfR tables_1 y0.cls y0.name 13 = some ("MacroAssembler", 1, .int) := by decide +kernel
theorem m0_11 : M0 11 ls (.int v :: .ref b :: st) (put b pre s A L B post) Q = M0 14 ls st (put b pre (ou s 1 v) A L B post) Q := w_put (show decode kb0 11 = .ok (.putfield 13, 3) from by decide +kernel) pf0_13 put_o (Nat.zero_le _) (by show 1 < 63; omega) rfl put_s1
theorem m0_14 : M0 14 [.val (.ref r), l1, l2] st H Q = M0 15 [.val (.ref r), l1, l2] (.ref r :: st) H Q := w_x (show decode kb0 14 = .ok (.aload_n 0, 1) from by decide +kernel) rfl
theorem m0_15 : M0 15 ls st H Q = M0 16 ls (.int 1 :: st) H Q := w_con (show decode kb0 15 = .ok (.iconst 1, 1) from by decide +kernel) rfl (by decide)
theorem pf0_16 : pfR tables_1 y0.cls y0.name 16 = some ("MacroAssembler", 2, .int) := by decide +kernel
theorem m0_16 : M0 16 ls (.int v :: .ref b :: st) (put b pre s A L B post) Q = M0 19 ls st (put b pre (ou s 2 v) A L B post) Q := w_put (show decode kb0 16 = .ok (.putfield 16, 3) from by decide +kernel) pf0_16 put_o (Nat.zero_le _) (by show 2 < 63; omega) rfl put_s2
theorem m0_19 : M0 19 [.val (.ref r), l1, l2] st H Q = M0 20 [.val (.ref r), l1, l2] (.ref r :: st) H Q := w_x (show decode kb0 19 = .ok (.aload_n 0, 1) from by decide +kernel) rfl
theorem m0_20 : M0 20 ls st H Q = M0 21 ls (.int 2 :: st) H Q := w_con (show decode kb0 20 = .ok (.iconst 2, 1) from by decide +kernel) rfl (by decide)
theorem pf0_19 : pfR tables_1 y0.cls y0.name 19 = some ("MacroAssembler", 3, .int) := by decide +kernel
theorem m0_21 : M0 21 ls (.int v :: .ref b :: st) (put b pre s A L B post) Q = M0 24 ls st (put b pre (ou s 3 v) A L B post) Q := w_put (show decode kb0 21 = .ok (.putfield 19, 3) from by decide +kernel) pf0_19 put_o (Nat.zero_le _) (by show 3 < 63; omega) rfl put_s3
theorem m0_24 : M0 24 [.val (.ref r), l1, l2] st H Q = M0 25 [.val (.ref r), l1, l2] (.ref r :: st) H Q := w_x (show decode kb0 24 = .ok (.aload_n 0, 1) from by decide +kernel) rfl
theorem m0_25 : M0 25 ls st H Q = M0 26 ls (.int 3 :: st) H Q := w_con (show decode kb0 25 = .ok (.iconst 3, 1) from by decide +kernel) rfl (by decide)
theorem pf0_22 : pfR tables_1 y0.cls y0.name 22 = some ("MacroAssembler", 4, .int) := by decide +kernel
theorem m0_26 : M0 26 ls (.int v :: .ref b :: st) (put b pre s A L B post) Q = M0 29 ls st (put b pre (ou s 4 v) A L B post) Q := w_put (show decode kb0 26 = .ok (.putfield 22, 3) from by decide +kernel) pf0_22 put_o (Nat.zero_le _) (by show 4 < 63; omega) rfl put_s4
theorem m0_29 : M0 29 [.val (.ref r), l1, l2] st H Q = M0 30 [.val (.ref r), l1, l2] (.ref r :: st) H Q := w_x (show decode kb0 29 = .ok (.aload_n 0, 1) from by decide +kernel) rfl
theorem m0_30 : M0 30 ls st H Q = M0 31 ls (.int 0 :: st) H Q := w_con (show decode kb0 30 = .ok (.iconst 0, 1) from by decide +kernel) rfl (by decide)
theorem pf0_25 : pfR tables_1 y0.cls y0.name 25 = some ("MacroAssembler", 5, .int) := by decide +kernel
theorem m0_31 : M0 31 ls (.int v :: .ref b :: st) (put b pre s A L B post) Q = M0 34 ls st (put b pre (ou s 5 v) A L B post) Q := w_put (show decode kb0 31 = .ok (.putfield 25, 3) from by decide +kernel) pf0_25 put_o (Nat.zero_le _) (by show 5 < 63; omega) rfl put_s5
theorem m0_34 : M0 34 [.val (.ref r), l1, l2] st H Q = M0 35 [.val (.ref r), l1, l2] (.ref r :: st) H Q := w_x (show decode kb0 34 = .ok (.aload_n 0, 1) from by decide +kernel) rfl
theorem m0_35 : M0 35 ls st H Q = M0 36 ls (.int 1 :: st) H Q := w_con (show decode kb0 35 = .ok (.iconst 1, 1) from by decide +kernel) rfl (by decide)
theorem pf0_28 : pfR tables_1 y0.cls y0.name 28 = some ("MacroAssembler", 6, .int) := by decide +kernel
theorem m0_36 : M0 36 ls (.int v :: .ref b :: st) (put b pre s A L B post) Q = M0 39 ls st (put b pre (ou s 6 v) A L B post) Q := w_put (show decode kb0 36 = .ok (.putfield 28, 3) from by decide +kernel) pf0_28 put_o (Nat.zero_le _) (by show 6 < 63; omega) rfl put_s6
theorem m0_39 : M0 39 [.val (.ref r), l1, l2] st H Q = M0 40 [.val (.ref r), l1, l2] (.ref r :: st) H Q := w_x (show decode kb0 39 = .ok (.aload_n 0, 1) from by decide +kernel) rfl
theorem m0_40 : M0 40 ls st H Q = M0 41 ls (.int 2 :: st) H Q := w_con (show decode kb0 40 = .ok (.iconst 2, 1) from by decide +kernel) rfl (by decide)
theorem pf0_31 : pfR tables_1 y0.cls y0.name 31 = some ("MacroAssembler", 7, .int) := by decide +kernel
theorem m0_41 : M0 41 ls (.int v :: .ref b :: st) (put b pre s A L B post) Q = M0 44 ls st (put b pre (ou s 7 v) A L B post) Q := w_put (show decode kb0 41 = .ok (.putfield 31, 3) from by decide +kernel) pf0_31 put_o (Nat.zero_le _) (by show 7 < 63; omega) rfl put_s7
theorem m0_44 : M0 44 [.val (.ref r), l1, l2] st H Q = M0 45 [.val (.ref r), l1, l2] (.ref r :: st) H Q := w_x (show decode kb0 44 = .ok (.aload_n 0, 1) from by decide +kernel) rfl
theorem m0_45 : M0 45 ls st H Q = M0 46 ls (.int 0 :: st) H Q := w_con (show decode kb0 45 = .ok (.iconst 0, 1) from by decide +kernel) rfl (by decide)
theorem pf0_34 : pfR tables_1 y0.cls y0.name 34 = some ("MacroAssembler", 8, .int) := by decide +kernel
theorem m0_46 : M0 46 ls (.int v :: .ref b :: st) (put b pre s A L B post) Q = M0 49 ls st (put b pre (ou s 8 v) A L B post) Q := w_put (show decode kb0 46 = .ok (.putfield 34, 3) from by decide +kernel) pf0_34 put_o (Nat.zero_le _) (by show 8 < 63; omega) rfl put_s8
theorem m0_49 : M0 49 [.val (.ref r), l1, l2] st H Q = M0 50 [.val (.ref r), l1, l2] (.ref r :: st) H Q := w_x (show decode kb0 49 = .ok (.aload_n 0, 1) from by decide +kernel) rfl
theorem m0_50 : M0 50 ls st H Q = M0 51 ls (.int 1 :: st) H Q := w_con (show decode kb0 50 = .ok (.iconst 1, 1) from by decide +kernel) rfl (by decide)
theorem pf0_37 : pfR tables_1 y0.cls y0.name 37 = some ("MacroAssembler", 9, .int) := by decide +kernel
theorem m0_51 : M0 51 ls (.int v :: .ref b :: st) (put b pre s A L B post) Q = M0 54 ls st (put b pre (ou s 9 v) A L B post) Q := w_put (show decode kb0 51 = .ok (.putfield 37, 3) from by decide +kernel) pf0_37 put_o (Nat.zero_le _) (by show 9 < 63; omega) rfl put_s9
theorem m0_54 : M0 54 [.val (.ref r), l1, l2] st H Q = M0 55 [.val (.ref r), l1, l2] (.ref r :: st) H Q := w_x (show decode kb0 54 = .ok (.aload_n 0, 1) from by decide +kernel) rfl
theorem m0_55 : M0 55 ls st H Q = M0 56 ls (.int 2 :: st) H Q := w_con (show decode kb0 55 = .ok (.iconst 2, 1) from by decide +kernel) rfl (by decide)
theorem pf0_40 : pfR tables_1 y0.cls y0.name 40 = some ("MacroAssembler", 10, .int) := by decide +kernel
theorem m0_56 : M0 56 ls (.int v :: .ref b :: st) (put b pre s A L B post) Q = M0 59 ls st (put b pre (ou s 10 v) A L B post) Q := w_put (show decode kb0 56 = .ok (.putfield 40, 3) from by decide +kernel) pf0_40 put_o (Nat.zero_le _) (by show 10 < 63; omega) rfl put_s10
theorem m0_59 : M0 59 [.val (.ref r), l1, l2] st H Q = M0 60 [.val (.ref r), l1, l2] (.ref r :: st) H Q := w_x (show decode kb0 59 = .ok (.aload_n 0, 1) from by decide +kernel) rfl
theorem m0_60 : M0 60 ls st H Q = M0 62 ls (.int 10 :: st) H Q := w_con (show decode kb0 60 = .ok (.bipush 10, 2) from by decide +kernel) rfl (by decide)
theorem pf0_43 : pfR tables_1 y0.cls y0.name 43 = some ("MacroAssembler", 11, .int) := by decide +kernel
theorem m0_62 : M0 62 ls (.int v :: .ref b :: st) (put b pre s A L B post) Q = M0 65 ls st (put b pre (ou s 11 v) A L B post) Q := w_put (show decode kb0 62 = .ok (.putfield 43, 3) from by decide +kernel) pf0_43 put_o (Nat.zero_le _) (by show 11 < 63; omega) rfl put_s11
theorem m0_65 : M0 65 [.val (.ref r), l1, l2] st H Q = M0 66 [.val (.ref r), l1, l2] (.ref r :: st) H Q := w_x (show decode kb0 65 = .ok (.aload_n 0, 1) from by decide +kernel) rfl
theorem m0_66 : M0 66 ls st H Q = M0 68 ls (.int 11 :: st) H Q := w_con (show decode kb0 66 = .ok (.bipush 11, 2) from by decide +kernel) rfl (by decide)
theorem pf0_46 : pfR tables_1 y0.cls y0.name 46 = some ("MacroAssembler", 12, .int) := by decide +kernel
theorem m0_68 : M0 68 ls (.int v :: .ref b :: st) (put b pre s A L B post) Q = M0 71 ls st (put b pre (ou s 12 v) A L B post) Q := w_put (show decode kb0 68 = .ok (.putfield 46, 3) from by decide +kernel) pf0_46 put_o (Nat.zero_le _) (by show 12 < 63; omega) rfl put_s12
theorem m0_71 : M0 71 [.val (.ref r), l1, l2] st H Q = M0 72 [.val (.ref r), l1, l2] (.ref r :: st) H Q := w_x (show decode kb0 71 = .ok (.aload_n 0, 1) from by decide +kernel) rfl
theorem m0_72 : M0 72 ls st H Q = M0 74 ls (.int 12 :: st) H Q := w_con (show decode kb0 72 = .ok (.bipush 12, 2) from by decide +kernel) rfl (by decide)
theorem pf0_49 : pfR tables_1 y0.cls y0.name 49 = some ("MacroAssembler", 13, .int) := by decide +kernel
theorem m0_74 : M0 74 ls (.int v :: .ref b :: st) (put b pre s A L B post) Q = M0 77 ls st (put b pre (ou s 13 v) A L B post) Q := w_put (show decode kb0 74 = .ok (.putfield 49, 3) from by decide +kernel) pf0_49 put_o (Nat.zero_le _) (by show 13 < 63; omega) rfl put_s13
theorem m0_77 : M0 77 [.val (.ref r), l1, l2] st H Q = M0 78 [.val (.ref r), l1, l2] (.ref r :: st) H Q := w_x (show decode kb0 77 = .ok (.aload_n 0, 1) from by decide +kernel) rfl
theorem m0_78 : M0 78 ls st H Q = M0 80 ls (.int 13 :: st) H Q := w_con (show decode kb0 78 = .ok (.bipush 13, 2) from by decide +kernel) rfl (by decide)
theorem pf0_52 : pfR tables_1 y0.cls y0.name 52 = some ("MacroAssembler", 14, .int) := by decide +kernel
theorem m0_80 : M0 80 ls (.int v :: .ref b :: st) (put b pre s A L B post) Q = M0 83 ls st (put b pre (ou s 14 v) A L B post) Q := w_put (show decode kb0 80 = .ok (.putfield 52, 3) from by decide +kernel) pf0_52 put_o (Nat.zero_le _) (by show 14 < 63; omega) rfl put_s14
theorem m0_83 : M0 83 [.val (.ref r), l1, l2] st H Q = M0 84 [.val (.ref r), l1, l2] (.ref r :: st) H Q := w_x (show decode kb0 83 = .ok (.aload_n 0, 1) from by decide +kernel) rfl
theorem m0_84 : M0 84 ls st H Q = M0 86 ls (.int 14 :: st) H Q := w_con (show decode kb0 84 = .ok (.bipush 14, 2) from by decide +kernel) rfl (by decide)
theorem pf0_55 : pfR tables_1 y0.cls y0.name 55 = some ("MacroAssembler", 15, .int) := by decide +kernel
theorem m0_86 : M0 86 ls (.int v :: .ref b :: st) (put b pre s A L B post) Q = M0 89 ls st (put b pre (ou s 15 v) A L B post) Q := w_put (show decode kb0 86 = .ok (.putfield 55, 3) from by decide +kernel) pf0_55 put_o (Nat.zero_le _) (by show 15 < 63; omega) rfl put_s15
theorem m0_89 : M0 89 [.val (.ref r), l1, l2] st H Q = M0 90 [.val (.ref r), l1, l2] (.ref r :: st) H Q := w_x (show decode kb0 89 = .ok (.aload_n 0, 1) from by decide +kernel) rfl
theorem m0_90 : M0 90 ls st H Q = M0 92 ls (.int 15 :: st) H Q := w_con (show decode kb0 90 = .ok (.bipush 15, 2) from by decide +kernel) rfl (by decide)
theorem pf0_58 : pfR tables_1 y0.cls y0.name 58 = some ("MacroAssembler", 16, .int) := by decide +kernel
theorem m0_92 : M0 92 ls (.int v :: .ref b :: st) (put b pre s A L B post) Q = M0 95 ls st (put b pre (ou s 16 v) A L B post) Q := w_put (show decode kb0 92 = .ok (.putfield 58, 3) from by decide +kernel) pf0_58 put_o (Nat.zero_le _) (by show 16 < 63; omega) rfl put_s16
theorem m0_95 : M0 95 [.val (.ref r), l1, l2] st H Q = M0 96 [.val (.ref r), l1, l2] (.ref r :: st) H Q := w_x (show decode kb0 95 = .ok (.aload_n 0, 1) from by decide +kernel) rfl
theorem m0_96 : M0 96 ls st H Q = M0 98 ls (.int 16 :: st) H Q := w_con (show decode kb0 96 = .ok (.bipush 16, 2) from by decide +kernel) rfl (by decide)
theorem pf0_61 : pfR tables_1 y0.cls y0.name 61 = some ("MacroAssembler", 17, .int) := by decide +kernel
theorem m0_98 : M0 98 ls (.int v :: .ref b :: st) (put b pre s A L B post) Q = M0 101 ls st (put b pre (ou s 17 v) A L B post) Q := w_put (show decode kb0 98 = .ok (.putfield 61, 3) from by decide +kernel) pf0_61 put_o (Nat.zero_le _) (by show 17 < 63; omega) rfl put_s17
theorem m0_101 : M0 101 [.val (.ref r), l1, l2] st H Q = M0 102 [.val (.ref r), l1, l2] (.ref r :: st) H Q := w_x (show decode kb0 101 = .ok (.aload_n 0, 1) from by decide +kernel) rfl
theorem m0_102 : M0 102 ls st H Q = M0 104 ls (.int 17 :: st) H Q := w_con (show decode kb0 102 = .ok (.bipush 17, 2) from by decide +kernel) rfl (by decide)
theorem pf0_64 : pfR tables_1 y0.cls y0.name 64 = some ("MacroAssembler", 18, .int) := by decide +kernel
theorem m0_104 : M0 104 ls (.int v :: .ref b :: st) (put b pre s A L B post) Q = M0 107 ls st (put b pre (ou s 18 v) A L B post) Q := w_put (show decode kb0 104 = .ok (.putfield 64, 3) from by decide +kernel) pf0_64 put_o (Nat.zero_le _) (by show 18 < 63; omega) rfl put_s18
theorem m0_107 : M0 107 [.val (.ref r), l1, l2] st H Q = M0 108 [.val (.ref r), l1, l2] (.ref r :: st) H Q := w_x (show decode kb0 107 = .ok (.aload_n 0, 1) from by decide +kernel) rfl
theorem m0_108 : M0 108 ls st H Q = M0 110 ls (.int 18 :: st) H Q := w_con (show decode kb0 108 = .ok (.bipush 18, 2) from by decide +kernel) rfl (by decide)
theorem pf0_67 : pfR tables_1 y0.cls y0.name 67 = some ("MacroAssembler", 19, .int) := by decide +kernel
theorem m0_110 : M0 110 ls (.int v :: .ref b :: st) (put b pre s A L B post) Q = M0 113 ls st (put b pre (ou s 19 v) A L B post) Q := w_put (show decode kb0 110 = .ok (.putfield 67, 3) from by decide +kernel) pf0_67 put_o (Nat.zero_le _) (by show 19 < 63; omega) rfl put_s19
theorem m0_113 : M0 113 [.val (.ref r), l1, l2] st H Q = M0 114 [.val (.ref r), l1, l2] (.ref r :: st) H Q := w_x (show decode kb0 113 = .ok (.aload_n 0, 1) from by decide +kernel) rfl
theorem m0_114 : M0 114 ls st H Q = M0 116 ls (.int 81 :: st) H Q := w_con (show decode kb0 114 = .ok (.bipush 81, 2) from by decide +kernel) rfl (by decide)
theorem pf0_70 : pfR tables_1 y0.cls y0.name 70 = some ("MacroAssembler", 20, .int) := by decide +kernel
theorem m0_116 : M0 116 ls (.int v :: .ref b :: st) (put b pre s A L B post) Q = M0 119 ls st (put b pre (ou s 20 v) A L B post) Q := w_put (show decode kb0 116 = .ok (.putfield 70, 3) from by decide +kernel) pf0_70 put_o (Nat.zero_le _) (by show 20 < 63; omega) rfl put_s20
theorem m0_119 : M0 119 [.val (.ref r), l1, l2] st H Q = M0 120 [.val (.ref r), l1, l2] (.ref r :: st) H Q := w_x (show decode kb0 119 = .ok (.aload_n 0, 1) from by decide +kernel) rfl
theorem m0_120 : M0 120 ls st H Q = M0 123 ls (.int 640 :: st) H Q := w_con (show decode kb0 120 = .ok (.sipush 640, 3) from by decide +kernel) rfl (by decide)
theorem m0_128 : M0 128 [.val (.ref r), l1, l2] st H Q = M0 129 [.val (.ref r), l1, l2] (.ref r :: st) H Q := w_x (show decode kb0 128 = .ok (.aload_n 0, 1) from by decide +kernel) rfl
theorem m0_129 : M0 129 ls st H Q = M0 132 ls (.int 640 :: st) H Q := w_con (show decode kb0 129 = .ok (.sipush 640, 3) from by decide +kernel) rfl (by decide)
theorem m0_137 : M0 137 [.val (.ref r), l1, l2] st H Q = M0 138 [.val (.ref r), l1, l2] (.ref r :: st) H Q := w_x (show decode kb0 137 = .ok (.aload_n 0, 1) from by decide +kernel) rfl
theorem m0_138 : M0 138 ls st H Q = M0 141 ls (.int 640 :: st) H Q := w_con (show decode kb0 138 = .ok (.sipush 640, 3) from by decide +kernel) rfl (by decide)
theorem m0_146 : M0 146 [.val (.ref r), l1, l2] st H Q = M0 147 [.val (.ref r), l1, l2] (.ref r :: st) H Q := w_x (show decode kb0 146 = .ok (.aload_n 0, 1) from by decide +kernel) rfl
theorem m0_147 : M0 147 ls st H Q = M0 149 ls (.int 32 :: st) H Q := w_con (show decode kb0 147 = .ok (.bipush 32, 2) from by decide +kernel) rfl (by decide)
theorem m0_154 : M0 154 [.val (.ref r), l1, l2] st H Q = M0 155 [.val (.ref r), l1, l2] (.ref r :: st) H Q := w_x (show decode kb0 154 = .ok (.aload_n 0, 1) from by decide +kernel) rfl
theorem m0_155 : M0 155 ls st H Q = M0 157 ls (.int 16 :: st) H Q := w_con (show decode kb0 155 = .ok (.bipush 16, 2) from by decide +kernel) rfl (by decide)
theorem m0_162 : M0 162 [.val (.ref r), l1, l2] st H Q = M0 163 [.val (.ref r), l1, l2] (.ref r :: st) H Q := w_x (show decode kb0 162 = .ok (.aload_n 0, 1) from by decide +kernel) rfl
theorem m0_163 : M0 163 ls st H Q = M0 165 ls (.int 16 :: st) H Q := w_con (show decode kb0 163 = .ok (.bipush 16, 2) from by decide +kernel) rfl (by decide)
theorem m0_170 : M0 170 [.val (.ref r), l1, l2] st H Q = M0 171 [.val (.ref r), l1, l2] (.ref r :: st) H Q := w_x (show decode kb0 170 = .ok (.aload_n 0, 1) from by decide +kernel) rfl
theorem m0_171 : M0 171 ls st H Q = M0 174 ls (.int 624 :: st) H Q := w_con (show decode kb0 171 = .ok (.sipush 624, 3) from by decide +kernel) rfl (by decide)
theorem m0_179 : M0 179 [.val (.ref r), l1, l2] st H Q = M0 180 [.val (.ref r), l1, l2] (.ref r :: st) H Q := w_x (show decode kb0 179 = .ok (.aload_n 0, 1) from by decide +kernel) rfl
theorem m0_180 : M0 180 ls st H Q = M0 182 ls (.int 12 :: st) H Q := w_con (show decode kb0 180 = .ok (.bipush 12, 2) from by decide +kernel) rfl (by decide)
theorem m0_187 : M0 187 [.val (.ref r), l1, l2] st H Q = M0 188 [.val (.ref r), l1, l2] (.ref r :: st) H Q := w_x (show decode kb0 187 = .ok (.aload_n 0, 1) from by decide +kernel) rfl
theorem m0_188 : M0 188 ls st H Q = M0 190 ls (.int 8 :: st) H Q := w_con (show decode kb0 188 = .ok (.bipush 8, 2) from by decide +kernel) rfl (by decide)
theorem m0_195 : M0 195 [.val (.ref r), l1, l2] st H Q = M0 196 [.val (.ref r), l1, l2] (.ref r :: st) H Q := w_x (show decode kb0 195 = .ok (.aload_n 0, 1) from by decide +kernel) rfl
theorem m0_196 : M0 196 ls st H Q = M0 198 ls (.int 8 :: st) H Q := w_con (show decode kb0 196 = .ok (.bipush 8, 2) from by decide +kernel) rfl (by decide)
theorem m0_203 : M0 203 [.val (.ref r), l1, l2] st H Q = M0 204 [.val (.ref r), l1, l2] (.ref r :: st) H Q := w_x (show decode kb0 203 = .ok (.aload_n 0, 1) from by decide +kernel) rfl
theorem m0_204 : M0 204 ls st H Q = M0 206 ls (.int 8 :: st) H Q := w_con (show decode kb0 204 = .ok (.bipush 8, 2) from by decide +kernel) rfl (by decide)
theorem m0_211 : M0 211 [.val (.ref r), l1, l2] st H Q = M0 212 [.val (.ref r), l1, l2] (.ref r :: st) H Q := w_x (show decode kb0 211 = .ok (.aload_n 0, 1) from by decide +kernel) rfl
theorem m0_212 : M0 212 ls st H Q = M0 214 ls (.int 8 :: st) H Q := w_con (show decode kb0 212 = .ok (.bipush 8, 2) from by decide +kernel) rfl (by decide)
theorem m0_219 : M0 219 [.val (.ref r), l1, l2] st H Q = M0 220 [.val (.ref r), l1, l2] (.ref r :: st) H Q := w_x (show decode kb0 219 = .ok (.aload_n 0, 1) from by decide +kernel) rfl
theorem m0_220 : M0 220 ls st H Q = M0 222 ls (.int 8 :: st) H Q := w_con (show decode kb0 220 = .ok (.bipush 8, 2) from by decide +kernel) rfl (by decide)
theorem m0_227 : M0 227 [.val (.ref r), l1, l2] st H Q = M0 228 [.val (.ref r), l1, l2] (.ref r :: st) H Q := w_x (show decode kb0 227 = .ok (.aload_n 0, 1) from by decide +kernel) rfl
theorem m0_228 : M0 228 ls st H Q = M0 230 ls (.int 8 :: st) H Q := w_con (show decode kb0 228 = .ok (.bipush 8, 2) from by decide +kernel) rfl (by decide)
theorem m0_235 : M0 235 [.val (.ref r), l1, l2] st H Q = M0 236 [.val (.ref r), l1, l2] (.ref r :: st) H Q := w_x (show decode kb0 235 = .ok (.aload_n 0, 1) from by decide +kernel) rfl
theorem m0_236 : M0 236 ls st H Q = M0 238 ls (.int 8 :: st) H Q := w_con (show decode kb0 236 = .ok (.bipush 8, 2) from by decide +kernel) rfl (by decide)
theorem m0_243 : M0 243 [.val (.ref r), l1, l2] st H Q = M0 244 [.val (.ref r), l1, l2] (.ref r :: st) H Q := w_x (show decode kb0 243 = .ok (.aload_n 0, 1) from by decide +kernel) rfl
theorem m0_244 : M0 244 ls st H Q = M0 246 ls (.int 8 :: st) H Q := w_con (show decode kb0 244 = .ok (.bipush 8, 2) from by decide +kernel) rfl (by decide)
theorem m0_251 : M0 251 [.val (.ref r), l1, l2] st H Q = M0 252 [.val (.ref r), l1, l2] (.ref r :: st) H Q := w_x (show decode kb0 251 = .ok (.aload_n 0, 1) from by decide +kernel) rfl
theorem m0_252 : M0 252 ls st H Q = M0 254 ls (.int 8 :: st) H Q := w_con (show decode kb0 252 = .ok (.bipush 8, 2) from by decide +kernel) rfl (by decide)
theorem m0_259 : M0 259 [.val (.ref r), l1, l2] st H Q = M0 260 [.val (.ref r), l1, l2] (.ref r :: st) H Q := w_x (show decode kb0 259 = .ok (.aload_n 0, 1) from by decide +kernel) rfl
theorem m0_260 : M0 260 ls st H Q = M0 262 ls (.int 8 :: st) H Q := w_con (show decode kb0 260 = .ok (.bipush 8, 2) from by decide +kernel) rfl (by decide)
theorem m0_267 : M0 267 [.val (.ref r), l1, l2] st H Q = M0 268 [.val (.ref r), l1, l2] (.ref r :: st) H Q := w_x (show decode kb0 267 = .ok (.aload_n 0, 1) from by decide +kernel) rfl
theorem m0_268 : M0 268 ls st H Q = M0 270 ls (.int 8 :: st) H Q := w_con (show decode kb0 268 = .ok (.bipush 8, 2) from by decide +kernel) rfl (by decide)
theorem m0_275 : M0 275 [.val (.ref r), l1, l2] st H Q = M0 276 [.val (.ref r), l1, l2] (.ref r :: st) H Q := w_x (show decode kb0 275 = .ok (.aload_n 0, 1) from by decide +kernel) rfl
theorem m0_276 : M0 276 ls st H Q = M0 278 ls (.int 32 :: st) H Q := w_con (show decode kb0 276 = .ok (.bipush 32, 2) from by decide +kernel) rfl (by decide)
theorem m0_283 : M0 283 [.val (.ref r), l1, l2] st H Q = M0 284 [.val (.ref r), l1, l2] (.ref r :: st) H Q := w_x (show decode kb0 283 = .ok (.aload_n 0, 1) from by decide +kernel) rfl
theorem m0_284 : M0 284 ls st H Q = M0 287 ls (.int 2592 :: st) H Q := w_con (show decode kb0 284 = .ok (.sipush 2592, 3) from by decide +kernel) rfl (by decide)
theorem m0_292 : M0 292 [.val (.ref r), l1, l2] st H Q = M0 293 [.val (.ref r), l1, l2] (.ref r :: st) H Q := w_x (show decode kb0 292 = .ok (.aload_n 0, 1) from by decide +kernel) rfl
theorem m0_293 : M0 293 ls st H Q = M0 296 ls (.int 640 :: st) H Q := w_con (show decode kb0 293 = .ok (.sipush 640, 3) from by decide +kernel) rfl (by decide)
theorem m0_301 : M0 301 [.val (.ref r), l1, l2] st H Q = M0 302 [.val (.ref r), l1, l2] (.ref r :: st) H Q := w_x (show decode kb0 301 = .ok (.aload_n 0, 1) from by decide +kernel) rfl
theorem m0_302 : M0 302 ls st H Q = M0 305 ls (.int 640 :: st) H Q := w_con (show decode kb0 302 = .ok (.sipush 640, 3) from by decide +kernel) rfl (by decide)
theorem m0_310 : M0 310 [.val (.ref r), l1, l2] st H Q = M0 311 [.val (.ref r), l1, l2] (.ref r :: st) H Q := w_x (show decode kb0 310 = .ok (.aload_n 0, 1) from by decide +kernel) rfl
theorem m0_311 : M0 311 ls st H Q = M0 314 ls (.int 640 :: st) H Q := w_con (show decode kb0 311 = .ok (.sipush 640, 3) from by decide +kernel) rfl (by decide)
theorem m0_319 : M0 319 [.val (.ref r), l1, l2] st H Q = M0 320 [.val (.ref r), l1, l2] (.ref r :: st) H Q := w_x (show decode kb0 319 = .ok (.aload_n 0, 1) from by decide +kernel) rfl
theorem m0_320 : M0 320 ls st H Q = M0 323 ls (.int 640 :: st) H Q := w_con (show decode kb0 320 = .ok (.sipush 640, 3) from by decide +kernel) rfl (by decide)
theorem m0_328 : M0 328 [.val (.ref r), l1, l2] st H Q = M0 329 [.val (.ref r), l1, l2] (.ref r :: st) H Q := w_x (show decode kb0 328 = .ok (.aload_n 0, 1) from by decide +kernel) rfl
theorem m0_329 : M0 329 ls st H Q = M0 331 ls (.int 16 :: st) H Q := w_con (show decode kb0 329 = .ok (.bipush 16, 2) from by decide +kernel) rfl (by decide)
theorem m0_336 : M0 336 [.val (.ref r), l1, l2] st H Q = M0 337 [.val (.ref r), l1, l2] (.ref r :: st) H Q := w_x (show decode kb0 336 = .ok (.aload_n 0, 1) from by decide +kernel) rfl
theorem m0_337 : M0 337 ls st H Q = M0 339 ls (.int 16 :: st) H Q := w_con (show decode kb0 337 = .ok (.bipush 16, 2) from by decide +kernel) rfl (by decide)
theorem m0_344 : M0 344 [.val (.ref r), l1, l2] st H Q = M0 345 [.val (.ref r), l1, l2] (.ref r :: st) H Q := w_x (show decode kb0 344 = .ok (.aload_n 0, 1) from by decide +kernel) rfl
theorem m0_345 : M0 345 ls st H Q = M0 347 ls (.int 32 :: st) H Q := w_con (show decode kb0 345 = .ok (.bipush 32, 2) from by decide +kernel) rfl (by decide)
theorem m0_352 : M0 352 [.val (.ref r), l1, l2] st H Q = M0 353 [.val (.ref r), l1, l2] (.ref r :: st) H Q := w_x (show decode kb0 352 = .ok (.aload_n 0, 1) from by decide +kernel) rfl
theorem m0_353 : M0 353 ls st H Q = M0 355 ls (.int 32 :: st) H Q := w_con (show decode kb0 353 = .ok (.bipush 32, 2) from by decide +kernel) rfl (by decide)
theorem m0_360 : M0 360 [.val (.ref r), l1, l2] st H Q = M0 361 [.val (.ref r), l1, l2] (.ref r :: st) H Q := w_x (show decode kb0 360 = .ok (.aload_n 0, 1) from by decide +kernel) rfl
theorem m0_361 : M0 361 ls st H Q = M0 363 ls (.int 32 :: st) H Q := w_con (show decode kb0 361 = .ok (.bipush 32, 2) from by decide +kernel) rfl (by decide)
theorem m0_368 : M0 368 [.val (.ref r), l1, l2] st H Q = M0 369 [.val (.ref r), l1, l2] (.ref r :: st) H Q := w_x (show decode kb0 368 = .ok (.aload_n 0, 1) from by decide +kernel) rfl
theorem m0_369 : M0 369 ls st H Q = M0 371 ls (.int 32 :: st) H Q := w_con (show decode kb0 369 = .ok (.bipush 32, 2) from by decide +kernel) rfl (by decide)
theorem m0_376 : M0 376 [.val (.ref r), l1, l2] st H Q = M0 377 [.val (.ref r), l1, l2] (.ref r :: st) H Q := w_x (show decode kb0 376 = .ok (.aload_n 0, 1) from by decide +kernel) rfl
theorem m0_377 : M0 377 ls st H Q = M0 379 ls (.int 32 :: st) H Q := w_con (show decode kb0 377 = .ok (.bipush 32, 2) from by decide +kernel) rfl (by decide)
theorem m0_384 : M0 384 [.val (.ref r), l1, l2] st H Q = M0 385 [.val (.ref r), l1, l2] (.ref r :: st) H Q := w_x (show decode kb0 384 = .ok (.aload_n 0, 1) from by decide +kernel) rfl
theorem m0_385 : M0 385 ls st H Q = M0 388 ls (.int 512 :: st) H Q := w_con (show decode kb0 385 = .ok (.sipush 512, 3) from by decide +kernel) rfl (by decide)
theorem m0_393 : M0 393 [.val (.ref r), l1, l2] st H Q = M0 394 [.val (.ref r), l1, l2] (.ref r :: st) H Q := w_x (show decode kb0 393 = .ok (.aload_n 0, 1) from by decide +kernel) rfl
theorem m0_394 : M0 394 ls st H Q = M0 397 ls (.int 512 :: st) H Q := w_con (show decode kb0 394 = .ok (.sipush 512, 3) from by decide +kernel) rfl (by decide)
theorem m0_402 : M0 402 [l0, .val (.int v), l2] st H Q = M0 403 [l0, .val (.int v), l2] (.int v :: st) H Q := w_x (show decode kb0 402 = .ok (.iload_n 1, 1) from by decide +kernel) rfl
theorem m0_403u : M0 403 [l0, l1, .unset] ((.int v) :: st) H Q = M0 404 [l0, l1, .val (.int v)] st H Q := w_st (i := 2) (p := isI) (show decode kb0 403 = .ok (.istore_n 2, 1) from by decide +kernel) rfl rfl rfl rfl rfl rfl
theorem m0_404 : M0 404 [l0, l1, .val (.int v)] st H Q = M0 405 [l0, l1, .val (.int v)] (.int v :: st) H Q := w_x (show decode kb0 404 = .ok (.iload_n 2, 1) from by decide +kernel) rfl
theorem m0_405 : M0 405 ls st H Q = M0 407 ls (.int 8 :: st) H Q := w_con (show decode kb0 405 = .ok (.bipush 8, 2) from by decide +kernel) rfl (by decide)
theorem m0_407 : M0 407 ls (.int y :: .int x :: st) H Q = if x < y then M0 410 ls st H Q else M0 413 ls st H Q := w_icmpN (show decode kb0 407 = .ok (.if_icmp .ge 6, 3) from by decide +kernel) (i_ge x y) rfl
theorem m0_410 : M0 410 ls st H Q = M0 412 ls (.int 8 :: st) H Q := w_con (show decode kb0 410 = .ok (.bipush 8, 2) from by decide +kernel) rfl (by decide)
theorem m0_412i : M0 412 [l0, l1, .val (.int z)] ((.int v) :: st) H Q = M0 413 [l0, l1, .val (.int v)] st H Q := w_st (i := 2) (p := isI) (show decode kb0 412 = .ok (.istore_n 2, 1) from by decide +kernel) rfl rfl rfl rfl rfl rfl
theorem m0_413 : M0 413 [l0, l1, .val (.int v)] st H Q = M0 414 [l0, l1, .val (.int v)] (.int v :: st) H Q := w_x (show decode kb0 413 = .ok (.iload_n 2, 1) from by decide +kernel) rfl
theorem m0_414 : M0 414 ls st H Q = M0 416 ls (.int 32 :: st) H Q := w_con (show decode kb0 414 = .ok (.bipush 32, 2) from by decide +kernel) rfl (by decide)
theorem m0_416 : M0 416 ls (.int y :: .int x :: st) H Q = if y < x then M0 419 ls st H Q else M0 422 ls st H Q := w_icmpN (show decode kb0 416 = .ok (.if_icmp .le 6, 3) from by decide +kernel) (i_le x y) rfl
theorem m0_419 : M0 419 ls st H Q = M0 421 ls (.int 32 :: st) H Q := w_con (show decode kb0 419 = .ok (.bipush 32, 2) from by decide +kernel) rfl (by decide)
theorem m0_421i : M0 421 [l0, l1, .val (.int z)] ((.int v) :: st) H Q = M0 422 [l0, l1, .val (.int v)] st H Q := w_st (i := 2) (p := isI) (show decode kb0 421 = .ok (.istore_n 2, 1) from by decide +kernel) rfl rfl rfl rfl rfl rfl
theorem m0_422 : M0 422 [.val (.ref r), l1, l2] st H Q = M0 423 [.val (.ref r), l1, l2] (.ref r :: st) H Q := w_x (show decode kb0 422 = .ok (.aload_n 0, 1) from by decide +kernel) rfl
theorem m0_423 : M0 423 [l0, l1, .val (.int v)] st H Q = M0 424 [l0, l1, .val (.int v)] (.int v :: st) H Q := w_x (show decode kb0 423 = .ok (.iload_n 2, 1) from by decide +kernel) rfl
theorem pf0_179 : pfR tables_1 y0.cls y0.name 179 = some ("MacroAssembler", 55, .int) := by decide +kernel
theorem m0_424 : M0 424 ls (.int v :: .ref b :: st) (put b pre s A L B post) Q = M0 427 ls st (put b pre (ou s 21 v) A L B post) Q := w_put (show decode kb0 424 = .ok (.putfield 179, 3) from by decide +kernel) pf0_179 put_o (Nat.zero_le _) (by show 55 < 63; omega) rfl put_s21
theorem m0_427 : M0 427 ls [] H Q = Q none H := w_vret (show decode kb0 427 = .ok (.return_, 1) from by decide +kernel) rfl
theorem m1_0 : M1 0 [.val (.ref r), l1] st H Q = M1 1 [.val (.ref r), l1] (.ref r :: st) H Q := w_x (show decode kb1 0 = .ok (.aload_n 0, 1) from by decide +kernel) rfl
theorem m1_1 : M1 1 [l0, .val (.int v)] st H Q = M1 2 [l0, .val (.int v)] (.int v :: st) H Q := w_x (show decode kb1 1 = .ok (.iload_n 1, 1) from by decide +kernel) rfl
theorem cr1_182 : vR tables_1 dn y1 182 = some (true, y2, prog_1_method_18_code, 2, (some .boolean), 1, 0) := pR_of (cR_of (by decide +kernel) rc_2 dn_2 dn_1 (sig := ⟨[.int], some .boolean⟩) (by decide +kernel) (by decide +kernel) rfl rfl) (by decide +kernel) (by decide +kernel)
theorem m1_2 (a0 : Int32) : M1 2 ls [.int a0, .ref b] (put b pre s A L B post) Q = M2 0 [.val (.ref b), .val (.int a0)] [] (put b pre s A L B post) (fun v H1 => M1 5 ls (v.toList ++ []) H1 Q) := w_virt (as := [.int a0]) (rest := []) (a := b) (show decode kb1 2 = .ok (.invokevirtual 182, 3) from by decide +kernel) cr1_182 put_o rfl rfl (Nat.le_of_ble_eq_true rfl) (by show 2 ≤ 2; omega) rfl
theorem m1_5 : M1 5 ls (.int x :: st) H Q = if x = 0 then M1 18 ls st H Q else M1 8 ls st H Q := w_if (show decode kb1 5 = .ok (.ifCond .eq 13, 3) from by decide +kernel) (z_eq x) rfl
theorem m1_8 : M1 8 [.val (.ref r), l1] st H Q = M1 9 [.val (.ref r), l1] (.ref r :: st) H Q := w_x (show decode kb1 8 = .ok (.aload_n 0, 1) from by decide +kernel) rfl
theorem m1_9 : M1 9 ls (.ref b :: st) (put b pre s A L B post) Q = M1 12 ls (.int (s 22) :: st) (put b pre s A L B post) Q := w_get (show decode kb1 9 = .ok (.getfield 186, 3) from by decide +kernel) gf_186 put_o rfl
theorem m1_12 : M1 12 ls st H Q = M1 15 ls (.int 640 :: st) H Q := w_con (show decode kb1 12 = .ok (.sipush 640, 3) from by decide +kernel) rfl (by decide)
theorem m1_15 : M1 15 ls (.int y :: .int x :: st) H Q = if x < y then M1 20 ls st H Q else M1 18 ls st H Q := w_icmp (show decode kb1 15 = .ok (.if_icmp .lt 5, 3) from by decide +kernel) (i_lt x y) rfl
theorem m1_18 : M1 18 ls st H Q = M1 19 ls (.int 0 :: st) H Q := w_con (show decode kb1 18 = .ok (.iconst 0, 1) from by decide +kernel) rfl (by decide)
theorem m1_19 : M1 19 ls (.int z :: st) H Q = Q (some (.int (nar .boolean z))) H := w_iretN (show decode kb1 19 = .ok (.ireturn, 1) from by decide +kernel) rfl (by simp)
theorem m1_20 : M1 20 [.val (.ref r), l1] st H Q = M1 21 [.val (.ref r), l1] (.ref r :: st) H Q := w_x (show decode kb1 20 = .ok (.aload_n 0, 1) from by decide +kernel) rfl
theorem m1_21 : M1 21 ls (.ref b :: st) (put b pre s A L B post) Q = M1 24 ls (.ref (b + 1) :: st) (put b pre s A L B post) Q := w_get (show decode kb1 21 = .ok (.getfield 73, 3) from by decide +kernel) gf_73 put_o rfl
theorem m1_24 : M1 24 [.val (.ref r), l1] st H Q = M1 25 [.val (.ref r), l1] (.ref r :: st) H Q := w_x (show decode kb1 24 = .ok (.aload_n 0, 1) from by decide +kernel) rfl
theorem m1_25 : M1 25 ls (.ref b :: st) (put b pre s A L B post) Q = M1 28 ls (.int (s 22) :: st) (put b pre s A L B post) Q := w_get (show decode kb1 25 = .ok (.getfield 186, 3) from by decide +kernel) gf_186 put_o rfl
theorem m1_28 : M1 28 [l0, .val (.int v)] st H Q = M1 29 [l0, .val (.int v)] (.int v :: st) H Q := w_x (show decode kb1 28 = .ok (.iload_n 1, 1) from by decide +kernel) rfl
theorem m1_29 : M1 29 ls (.int x :: st) H Q = M1 30 ls (.int (x.toUInt32.toUInt16.toUInt32.toInt32) :: st) H Q := w_x (show decode kb1 29 = .ok (.i2c, 1) from by decide +kernel) rfl
theorem m1_30  : M1 30 ls (.int v :: .int j :: .ref (b + 1) :: st) (put b pre s A L B post) Q = (inB j (A 0) ∧ M1 31 ls st (put b pre s (ou A 0 (setA (A 0) j (nar .char v))) L B post) Q) := w_ist (show decode kb1 30 = .ok (.castore, 1) from by decide +kernel) rfl put_a0 (Nat.zero_le _) rfl put_w0
theorem m1_31 : M1 31 [.val (.ref r), l1] st H Q = M1 32 [.val (.ref r), l1] (.ref r :: st) H Q := w_x (show decode kb1 31 = .ok (.aload_n 0, 1) from by decide +kernel) rfl
theorem m1_32 : M1 32 ls ((.ref r) :: st) H Q = M1 33 ls ((.ref r) :: (.ref r) :: st) H Q := w_x (show decode kb1 32 = .ok (.dup, 1) from by decide +kernel) rfl
theorem m1_33 : M1 33 ls (.ref b :: st) (put b pre s A L B post) Q = M1 36 ls (.int (s 22) :: st) (put b pre s A L B post) Q := w_get (show decode kb1 33 = .ok (.getfield 186, 3) from by decide +kernel) gf_186 put_o rfl
theorem m1_36 : M1 36 ls st H Q = M1 37 ls (.int 1 :: st) H Q := w_con (show decode kb1 36 = .ok (.iconst 1, 1) from by decide +kernel) rfl (by decide)
theorem m1_37 : M1 37 ls (.int y :: .int x :: st) H Q = M1 38 ls (.int (x + y) :: st) H Q := w_x (show decode kb1 37 = .ok (.iadd, 1) from by decide +kernel) rfl
theorem pf1_186 : pfR tables_1 y1.cls y1.name 186 = some ("MacroAssembler", 56, .int) := by decide +kernel
theorem m1_38 : M1 38 ls (.int v :: .ref b :: st) (put b pre s A L B post) Q = M1 41 ls st (put b pre (ou s 22 v) A L B post) Q := w_put (show decode kb1 38 = .ok (.putfield 186, 3) from by decide +kernel) pf1_186 put_o (Nat.zero_le _) (by show 56 < 63; omega) rfl put_s22
theorem m1_41 : M1 41 [.val (.ref r), l1] st H Q = M1 42 [.val (.ref r), l1] (.ref r :: st) H Q := w_x (show decode kb1 41 = .ok (.aload_n 0, 1) from by decide +kernel) rfl
theorem cr1_189 : vR tables_1 dn y1 189 = some (true, y8, prog_1_method_20_code, 1, none, 0, 1) := pR_of (cR_of (by decide +kernel) rc_8 dn_8 dn_1 (sig := ⟨[], none⟩) (by decide +kernel) (by decide +kernel) rfl rfl) (by decide +kernel) (by decide +kernel)
theorem m1_42 : M1 42 ls [.ref b] (put b pre s A L B post) Q = M8 0 [.val (.ref b)] [] (put b pre s A L B post) (fun v H1 => M1 45 ls (v.toList ++ []) H1 Q) := w_virt (as := []) (rest := []) (a := b) (show decode kb1 42 = .ok (.invokevirtual 189, 3) from by decide +kernel) cr1_189 put_o rfl rfl (Nat.le_of_ble_eq_true rfl) (by show 1 ≤ 1; omega) rfl
theorem m1_45 : M1 45 ls st H Q = M1 46 ls (.int 1 :: st) H Q := w_con (show decode kb1 45 = .ok (.iconst 1, 1) from by decide +kernel) rfl (by decide)
theorem m1_46 : M1 46 ls (.int z :: st) H Q = Q (some (.int (nar .boolean z))) H := w_iretN (show decode kb1 46 = .ok (.ireturn, 1) from by decide +kernel) rfl (by simp)
theorem m2_0 : M2 0 [l0, .val (.int v)] st H Q = M2 1 [l0, .val (.int v)] (.int v :: st) H Q := w_x (show decode kb2 0 = .ok (.iload_n 1, 1) from by decide +kernel) rfl
theorem m2_1 : M2 1 ls st H Q = M2 3 ls (.int 10 :: st) H Q := w_con (show decode kb2 1 = .ok (.bipush 10, 2) from by decide +kernel) rfl (by decide)
theorem m2_3 : M2 3 ls (.int y :: .int x :: st) H Q = if x = y then M2 18 ls st H Q else M2 6 ls st H Q := w_icmp (show decode kb2 3 = .ok (.if_icmp .eq 15, 3) from by decide +kernel) (i_eq x y) rfl
theorem m2_6 : M2 6 [l0, .val (.int v)] st H Q = M2 7 [l0, .val (.int v)] (.int v :: st) H Q := w_x (show decode kb2 6 = .ok (.iload_n 1, 1) from by decide +kernel) rfl
theorem m2_7 : M2 7 ls st H Q = M2 9 ls (.int 32 :: st) H Q := w_con (show decode kb2 7 = .ok (.bipush 32, 2) from by decide +kernel) rfl (by decide)
theorem m2_9 : M2 9 ls (.int y :: .int x :: st) H Q = if x < y then M2 22 ls st H Q else M2 12 ls st H Q := w_icmp (show decode kb2 9 = .ok (.if_icmp .lt 13, 3) from by decide +kernel) (i_lt x y) rfl
theorem m2_12 : M2 12 [l0, .val (.int v)] st H Q = M2 13 [l0, .val (.int v)] (.int v :: st) H Q := w_x (show decode kb2 12 = .ok (.iload_n 1, 1) from by decide +kernel) rfl
theorem m2_13 : M2 13 ls st H Q = M2 15 ls (.int 126 :: st) H Q := w_con (show decode kb2 13 = .ok (.bipush 126, 2) from by decide +kernel) rfl (by decide)
theorem m2_15 : M2 15 ls (.int y :: .int x :: st) H Q = if y < x then M2 22 ls st H Q else M2 18 ls st H Q := w_icmp (show decode kb2 15 = .ok (.if_icmp .gt 7, 3) from by decide +kernel) (i_gt x y) rfl
theorem m2_18 : M2 18 ls st H Q = M2 19 ls (.int 1 :: st) H Q := w_con (show decode kb2 18 = .ok (.iconst 1, 1) from by decide +kernel) rfl (by decide)
theorem m2_19 : M2 19 ls st H Q = M2 23 ls st H Q := w_x (show decode kb2 19 = .ok (.goto 4, 3) from by decide +kernel) rfl
theorem m2_22 : M2 22 ls st H Q = M2 23 ls (.int 0 :: st) H Q := w_con (show decode kb2 22 = .ok (.iconst 0, 1) from by decide +kernel) rfl (by decide)
theorem m2_23 : M2 23 ls (.int z :: st) H Q = Q (some (.int (nar .boolean z))) H := w_iretN (show decode kb2 23 = .ok (.ireturn, 1) from by decide +kernel) rfl (by simp)
theorem m3_0 : M3 0 [.val (.ref r)] st H Q = M3 1 [.val (.ref r)] (.ref r :: st) H Q := w_x (show decode kb3 0 = .ok (.aload_n 0, 1) from by decide +kernel) rfl
theorem m3_1 : M3 1 ls (.ref b :: st) (put b pre s A L B post) Q = M3 4 ls (.int (s 22) :: st) (put b pre s A L B post) Q := w_get (show decode kb3 1 = .ok (.getfield 186, 3) from by decide +kernel) gf_186 put_o rfl
theorem m3_4 : M3 4 ls (.int z :: st) H Q = Q (some (.int z)) H := w_iret (show decode kb3 4 = .ok (.ireturn, 1) from by decide +kernel) rfl
theorem m4_0 : M4 0 [.val (.ref r)] st H Q = M4 1 [.val (.ref r)] (.ref r :: st) H Q := w_x (show decode kb4 0 = .ok (.aload_n 0, 1) from by decide +kernel) rfl
theorem m4_1 : M4 1 ls (.ref b :: st) (put b pre s A L B post) Q = M4 4 ls (.int (s 24) :: st) (put b pre s A L B post) Q := w_get (show decode kb4 1 = .ok (.getfield 221, 3) from by decide +kernel) gf_221 put_o rfl
theorem m4_4 : M4 4 ls (.int z :: st) H Q = Q (some (.int z)) H := w_iret (show decode kb4 4 = .ok (.ireturn, 1) from by decide +kernel) rfl
theorem m5_0 : M5 0 [.val (.ref r)] st H Q = M5 1 [.val (.ref r)] (.ref r :: st) H Q := w_x (show decode kb5 0 = .ok (.aload_n 0, 1) from by decide +kernel) rfl
theorem m5_1 : M5 1 ls (.ref b :: st) (put b pre s A L B post) Q = M5 4 ls (.int (s 24) :: st) (put b pre s A L B post) Q := w_get (show decode kb5 1 = .ok (.getfield 221, 3) from by decide +kernel) gf_221 put_o rfl
theorem m5_4 : M5 4 ls st H Q = M5 5 ls (.int 2 :: st) H Q := w_con (show decode kb5 4 = .ok (.iconst 2, 1) from by decide +kernel) rfl (by decide)
theorem m5_5 : M5 5 ls (.int y :: .int x :: st) H Q = if x = y then M5 8 ls st H Q else M5 15 ls st H Q := w_icmpN (show decode kb5 5 = .ok (.if_icmp .ne 10, 3) from by decide +kernel) (i_ne x y) rfl
theorem m5_8 : M5 8 [.val (.ref r)] st H Q = M5 9 [.val (.ref r)] (.ref r :: st) H Q := w_x (show decode kb5 8 = .ok (.aload_n 0, 1) from by decide +kernel) rfl
theorem m5_9 : M5 9 ls (.ref b :: st) (put b pre s A L B post) Q = M5 12 ls (.int (s 25) :: st) (put b pre s A L B post) Q := w_get (show decode kb5 9 = .ok (.getfield 224, 3) from by decide +kernel) gf_224 put_o rfl
theorem m5_12 : M5 12 ls st H Q = M5 16 ls st H Q := w_x (show decode kb5 12 = .ok (.goto 4, 3) from by decide +kernel) rfl
theorem m5_15 : M5 15 ls st H Q = M5 16 ls (.int 0 :: st) H Q := w_con (show decode kb5 15 = .ok (.iconst 0, 1) from by decide +kernel) rfl (by decide)
theorem m5_16 : M5 16 ls (.int z :: st) H Q = Q (some (.int z)) H := w_iret (show decode kb5 16 = .ok (.ireturn, 1) from by decide +kernel) rfl
theorem m6_0 : M6 0 [.val (.ref r)] st H Q = M6 1 [.val (.ref r)] (.ref r :: st) H Q := w_x (show decode kb6 0 = .ok (.aload_n 0, 1) from by decide +kernel) rfl
theorem m6_1 : M6 1 ls (.ref b :: st) (put b pre s A L B post) Q = M6 4 ls (.int (s 24) :: st) (put b pre s A L B post) Q := w_get (show decode kb6 1 = .ok (.getfield 221, 3) from by decide +kernel) gf_221 put_o rfl
theorem m6_4 : M6 4 ls st H Q = M6 5 ls (.int 1 :: st) H Q := w_con (show decode kb6 4 = .ok (.iconst 1, 1) from by decide +kernel) rfl (by decide)
theorem m6_5 : M6 5 ls (.int y :: .int x :: st) H Q = if x = y then M6 8 ls st H Q else M6 15 ls st H Q := w_icmpN (show decode kb6 5 = .ok (.if_icmp .ne 10, 3) from by decide +kernel) (i_ne x y) rfl
theorem m6_8 : M6 8 [.val (.ref r)] st H Q = M6 9 [.val (.ref r)] (.ref r :: st) H Q := w_x (show decode kb6 8 = .ok (.aload_n 0, 1) from by decide +kernel) rfl
theorem m6_9 : M6 9 ls (.ref b :: st) (put b pre s A L B post) Q = M6 12 ls (.int (s 26) :: st) (put b pre s A L B post) Q := w_get (show decode kb6 9 = .ok (.getfield 227, 3) from by decide +kernel) gf_227 put_o rfl
theorem m6_12 : M6 12 ls st H Q = M6 16 ls st H Q := w_x (show decode kb6 12 = .ok (.goto 4, 3) from by decide +kernel) rfl
theorem m6_15 : M6 15 ls st H Q = M6 16 ls (.int 0 :: st) H Q := w_con (show decode kb6 15 = .ok (.iconst 0, 1) from by decide +kernel) rfl (by decide)
theorem m6_16 : M6 16 ls (.int z :: st) H Q = Q (some (.int z)) H := w_iret (show decode kb6 16 = .ok (.ireturn, 1) from by decide +kernel) rfl
theorem m7_0 : M7 0 [l0, .val (.int v)] st H Q = M7 1 [l0, .val (.int v)] (.int v :: st) H Q := w_x (show decode kb7 0 = .ok (.iload_n 1, 1) from by decide +kernel) rfl
theorem m7_1 : M7 1 ls (.int x :: st) H Q = if x < 0 then M7 18 ls st H Q else M7 4 ls st H Q := w_if (show decode kb7 1 = .ok (.ifCond .lt 17, 3) from by decide +kernel) (z_lt x) rfl
theorem m7_4 : M7 4 [l0, .val (.int v)] st H Q = M7 5 [l0, .val (.int v)] (.int v :: st) H Q := w_x (show decode kb7 4 = .ok (.iload_n 1, 1) from by decide +kernel) rfl
theorem m7_5 : M7 5 [.val (.ref r), l1] st H Q = M7 6 [.val (.ref r), l1] (.ref r :: st) H Q := w_x (show decode kb7 5 = .ok (.aload_n 0, 1) from by decide +kernel) rfl
theorem cr7_248 : vR tables_1 dn y7 248 = some (false, y6, prog_1_method_9_code, 1, (some .int), 0, 1) := vR_of (cR_of (by decide +kernel) rc_6 dn_6 dn_7 (sig := ⟨[], some .int⟩) (by decide +kernel) (by decide +kernel) rfl rfl) (by decide +kernel) (by decide +kernel) (by decide +kernel)
theorem m7_6 (u0 : Int32) : M7 6 ls [.ref b, .int u0] (put b pre s A L B post) Q = M6 0 [.val (.ref b)] [] (put b pre s A L B post) (fun v H1 => M7 9 ls (v.toList ++ [.int u0]) H1 Q) := w_virt (as := []) (rest := [.int u0]) (a := b) (show decode kb7 6 = .ok (.invokevirtual 248, 3) from by decide +kernel) cr7_248 put_o rfl rfl (Nat.le_of_ble_eq_true rfl) (by show 1 ≤ 1; omega) rfl
theorem m7_9 : M7 9 ls (.int y :: .int x :: st) H Q = if x < y then M7 12 ls st H Q else M7 18 ls st H Q := w_icmpN (show decode kb7 9 = .ok (.if_icmp .ge 9, 3) from by decide +kernel) (i_ge x y) rfl
theorem m7_12 : M7 12 [l0, .val (.int v)] st H Q = M7 13 [l0, .val (.int v)] (.int v :: st) H Q := w_x (show decode kb7 12 = .ok (.iload_n 1, 1) from by decide +kernel) rfl
theorem m7_13 : M7 13 ls st H Q = M7 15 ls (.int 32 :: st) H Q := w_con (show decode kb7 13 = .ok (.bipush 32, 2) from by decide +kernel) rfl (by decide)
theorem m7_15 : M7 15 ls (.int y :: .int x :: st) H Q = if x < y then M7 20 ls st H Q else M7 18 ls st H Q := w_icmp (show decode kb7 15 = .ok (.if_icmp .lt 5, 3) from by decide +kernel) (i_lt x y) rfl
theorem m7_18 : M7 18 ls st H Q = M7 19 ls (.int (-1) :: st) H Q := w_con (show decode kb7 18 = .ok (.iconst (-1), 1) from by decide +kernel) rfl (by decide)
theorem m7_19 : M7 19 ls (.int z :: st) H Q = Q (some (.int z)) H := w_iret (show decode kb7 19 = .ok (.ireturn, 1) from by decide +kernel) rfl
theorem m7_20 : M7 20 [.val (.ref r), l1] st H Q = M7 21 [.val (.ref r), l1] (.ref r :: st) H Q := w_x (show decode kb7 20 = .ok (.aload_n 0, 1) from by decide +kernel) rfl
theorem m7_21 : M7 21 ls (.ref b :: st) (put b pre s A L B post) Q = M7 24 ls (.ref (b + 4) :: st) (put b pre s A L B post) Q := w_get (show decode kb7 21 = .ok (.getfield 84, 3) from by decide +kernel) gf_84 put_o rfl
theorem m7_24 : M7 24 [l0, .val (.int v)] st H Q = M7 25 [l0, .val (.int v)] (.int v :: st) H Q := w_x (show decode kb7 24 = .ok (.iload_n 1, 1) from by decide +kernel) rfl
theorem m7_25  : M7 25 ls (.int j :: .ref (b + 4) :: st) (put b pre s A L B post) Q = (inB j (A 3) ∧ M7 26 ls (.int (getA (A 3) j) :: st) (put b pre s A L B post) Q) := w_ild (show decode kb7 25 = .ok (.iaload, 1) from by decide +kernel) rfl put_a3
theorem m7_26 : M7 26 ls (.int z :: st) H Q = Q (some (.int z)) H := w_iret (show decode kb7 26 = .ok (.ireturn, 1) from by decide +kernel) rfl
theorem m8_0 : M8 0 [.val (.ref r)] st H Q = M8 1 [.val (.ref r)] (.ref r :: st) H Q := w_x (show decode kb8 0 = .ok (.aload_n 0, 1) from by decide +kernel) rfl
theorem m8_1 : M8 1 ls st H Q = M8 2 ls (.int 0 :: st) H Q := w_con (show decode kb8 1 = .ok (.iconst 0, 1) from by decide +kernel) rfl (by decide)
theorem pf8_221 : pfR tables_1 y8.cls y8.name 221 = some ("MacroAssembler", 57, .int) := by decide +kernel
theorem m8_2 : M8 2 ls (.int v :: .ref b :: st) (put b pre s A L B post) Q = M8 5 ls st (put b pre (ou s 24 v) A L B post) Q := w_put (show decode kb8 2 = .ok (.putfield 221, 3) from by decide +kernel) pf8_221 put_o (Nat.zero_le _) (by show 57 < 63; omega) rfl put_s24
theorem m8_5 : M8 5 [.val (.ref r)] st H Q = M8 6 [.val (.ref r)] (.ref r :: st) H Q := w_x (show decode kb8 5 = .ok (.aload_n 0, 1) from by decide +kernel) rfl
theorem m8_6 : M8 6 ls st H Q = M8 7 ls (.int 0 :: st) H Q := w_con (show decode kb8 6 = .ok (.iconst 0, 1) from by decide +kernel) rfl (by decide)
theorem pf8_227 : pfR tables_1 y8.cls y8.name 227 = some ("MacroAssembler", 58, .int) := by decide +kernel
theorem m8_7 : M8 7 ls (.int v :: .ref b :: st) (put b pre s A L B post) Q = M8 10 ls st (put b pre (ou s 26 v) A L B post) Q := w_put (show decode kb8 7 = .ok (.putfield 227, 3) from by decide +kernel) pf8_227 put_o (Nat.zero_le _) (by show 58 < 63; omega) rfl put_s26
theorem m8_10 : M8 10 [.val (.ref r)] st H Q = M8 11 [.val (.ref r)] (.ref r :: st) H Q := w_x (show decode kb8 10 = .ok (.aload_n 0, 1) from by decide +kernel) rfl
theorem m8_11 : M8 11 ls st H Q = M8 12 ls (.int 0 :: st) H Q := w_con (show decode kb8 11 = .ok (.iconst 0, 1) from by decide +kernel) rfl (by decide)
theorem pf8_230 : pfR tables_1 y8.cls y8.name 230 = some ("MacroAssembler", 59, .int) := by decide +kernel
theorem m8_12 : M8 12 ls (.int v :: .ref b :: st) (put b pre s A L B post) Q = M8 15 ls st (put b pre (ou s 28 v) A L B post) Q := w_put (show decode kb8 12 = .ok (.putfield 230, 3) from by decide +kernel) pf8_230 put_o (Nat.zero_le _) (by show 59 < 63; omega) rfl put_s28
theorem m8_15 : M8 15 [.val (.ref r)] st H Q = M8 16 [.val (.ref r)] (.ref r :: st) H Q := w_x (show decode kb8 15 = .ok (.aload_n 0, 1) from by decide +kernel) rfl
theorem m8_16 : M8 16 ls st H Q = M8 17 ls (.int 0 :: st) H Q := w_con (show decode kb8 16 = .ok (.iconst 0, 1) from by decide +kernel) rfl (by decide)
theorem pf8_233 : pfR tables_1 y8.cls y8.name 233 = some ("MacroAssembler", 60, .int) := by decide +kernel
theorem m8_17 : M8 17 ls (.int v :: .ref b :: st) (put b pre s A L B post) Q = M8 20 ls st (put b pre (ou s 27 v) A L B post) Q := w_put (show decode kb8 17 = .ok (.putfield 233, 3) from by decide +kernel) pf8_233 put_o (Nat.zero_le _) (by show 60 < 63; omega) rfl put_s27
theorem m8_20 : M8 20 [.val (.ref r)] st H Q = M8 21 [.val (.ref r)] (.ref r :: st) H Q := w_x (show decode kb8 20 = .ok (.aload_n 0, 1) from by decide +kernel) rfl
theorem m8_21 : M8 21 ls st H Q = M8 22 ls (.int 0 :: st) H Q := w_con (show decode kb8 21 = .ok (.iconst 0, 1) from by decide +kernel) rfl (by decide)
theorem pf8_224 : pfR tables_1 y8.cls y8.name 224 = some ("MacroAssembler", 61, .int) := by decide +kernel
theorem m8_22 : M8 22 ls (.int v :: .ref b :: st) (put b pre s A L B post) Q = M8 25 ls st (put b pre (ou s 25 v) A L B post) Q := w_put (show decode kb8 22 = .ok (.putfield 224, 3) from by decide +kernel) pf8_224 put_o (Nat.zero_le _) (by show 61 < 63; omega) rfl put_s25
theorem m8_25 : M8 25 [.val (.ref r)] st H Q = M8 26 [.val (.ref r)] (.ref r :: st) H Q := w_x (show decode kb8 25 = .ok (.aload_n 0, 1) from by decide +kernel) rfl
theorem m8_26 : M8 26 ls st H Q = M8 27 ls (.int 0 :: st) H Q := w_con (show decode kb8 26 = .ok (.iconst 0, 1) from by decide +kernel) rfl (by decide)
theorem pf8_236 : pfR tables_1 y8.cls y8.name 236 = some ("MacroAssembler", 62, .int) := by decide +kernel
theorem m8_27 : M8 27 ls (.int v :: .ref b :: st) (put b pre s A L B post) Q = M8 30 ls st (put b pre (ou s 29 v) A L B post) Q := w_put (show decode kb8 27 = .ok (.putfield 236, 3) from by decide +kernel) pf8_236 put_o (Nat.zero_le _) (by show 62 < 63; omega) rfl put_s29
theorem m8_30 : M8 30 ls [] H Q = Q none H := w_vret (show decode kb8 30 = .ok (.return_, 1) from by decide +kernel) rfl
theorem m9_0 : M9 0 ls st H Q = M9 3 ls (.ref H.length :: st) (H ++ [(.object "MacroAssembler", D0)]) Q := (w_new (C := "MacroAssembler") at_0 (by rw [hNew, show rCls tables_1 y9.cls 7 = some "MacroAssembler" from by decide +kernel]; dsimp only; rw [if_pos (by decide +kernel)])).trans (by rw [lay0]; rfl)
theorem m9_3 : M9 3 ls ((.ref r) :: st) H Q = M9 4 ls ((.ref r) :: (.ref r) :: st) H Q := w_x at_3 rfl
theorem m9_4 : M9 4 [.val (.int v), l1, l2, l3, l4, l5, l6] st H Q = M9 5 [.val (.int v), l1, l2, l3, l4, l5, l6] (.int v :: st) H Q := w_x at_4 rfl
theorem cr9_9 : nR tables_1 dn y9 9 = some (y0, prog_1_method_1_code, 3, none, 1, 1) := nR_of (cR_of (by decide +kernel) rc_0 dn_0 dn_9 (sig := ⟨[.int], none⟩) (by decide +kernel) (by decide +kernel) rfl rfl) rfl (by decide +kernel) rfl
theorem cr9_9_o : oR tables_1 dn y9 9 = none := by decide +kernel
theorem m9_5 (a0 : Int32) (u0 : Nat) : M9 5 ls [.int a0, .ref r, .ref u0] H Q = M0 0 [.val (.ref r), .val (.int a0), .unset] [] H (fun v H1 => M9 8 ls (v.toList ++ [.ref u0]) H1 Q) := w_spec (as := [.int a0]) (rest := [.ref u0]) (a := r) at_5 cr9_9_o cr9_9 rfl (Nat.le_of_ble_eq_true rfl) (by show 2 ≤ 3; omega) rfl
theorem m9_8u : M9 8 [l0, l1, l2, .unset, l4, l5, l6] ((.ref r) :: st) H Q = M9 9 [l0, l1, l2, .val (.ref r), l4, l5, l6] st H Q := w_st (i := 3) (p := Value.isRef) at_8 rfl rfl rfl rfl rfl rfl
theorem m9_9 : M9 9 [l0, .val (.int v), l2, l3, l4, l5, l6] st H Q = M9 10 [l0, .val (.int v), l2, l3, l4, l5, l6] (.int v :: st) H Q := w_x at_9 rfl
theorem m9_10 : M9 10 ls st H Q = M9 12 ls (.int 10 :: st) H Q := w_con at_10 rfl (by decide)
theorem m9_12 : M9 12 ls (.int y :: .int x :: st) H Q = if x = y then M9 27 ls st H Q else M9 15 ls st H Q := w_icmp at_12 (i_eq x y) rfl
theorem m9_15 : M9 15 [l0, .val (.int v), l2, l3, l4, l5, l6] st H Q = M9 16 [l0, .val (.int v), l2, l3, l4, l5, l6] (.int v :: st) H Q := w_x at_15 rfl
theorem m9_16 : M9 16 ls st H Q = M9 18 ls (.int 32 :: st) H Q := w_con at_16 rfl (by decide)
theorem m9_18 : M9 18 ls (.int y :: .int x :: st) H Q = if x < y then M9 31 ls st H Q else M9 21 ls st H Q := w_icmp at_18 (i_lt x y) rfl
theorem m9_21 : M9 21 [l0, .val (.int v), l2, l3, l4, l5, l6] st H Q = M9 22 [l0, .val (.int v), l2, l3, l4, l5, l6] (.int v :: st) H Q := w_x at_21 rfl
theorem m9_22 : M9 22 ls st H Q = M9 24 ls (.int 126 :: st) H Q := w_con at_22 rfl (by decide)
theorem m9_24 : M9 24 ls (.int y :: .int x :: st) H Q = if y < x then M9 31 ls st H Q else M9 27 ls st H Q := w_icmp at_24 (i_gt x y) rfl
theorem m9_27 : M9 27 ls st H Q = M9 28 ls (.int 1 :: st) H Q := w_con at_27 rfl (by decide)
theorem m9_28 : M9 28 ls st H Q = M9 32 ls st H Q := w_x at_28 rfl
theorem m9_31 : M9 31 ls st H Q = M9 32 ls (.int 0 :: st) H Q := w_con at_31 rfl (by decide)
theorem m9_32u : M9 32 [l0, l1, l2, l3, .unset, l5, l6] ((.int v) :: st) H Q = M9 34 [l0, l1, l2, l3, .val (.int v), l5, l6] st H Q := w_st (i := 4) (p := isI) at_32 rfl rfl rfl rfl rfl rfl
theorem m9_34 : M9 34 [l0, l1, l2, .val (.ref r), l4, l5, l6] st H Q = M9 35 [l0, l1, l2, .val (.ref r), l4, l5, l6] (.ref r :: st) H Q := w_x at_34 rfl
theorem m9_35 : M9 35 [l0, .val (.int v), l2, l3, l4, l5, l6] st H Q = M9 36 [l0, .val (.int v), l2, l3, l4, l5, l6] (.int v :: st) H Q := w_x at_35 rfl
theorem cr9_12 : vR tables_1 dn y9 12 = some (false, y1, prog_1_method_2_code, 2, (some .boolean), 1, 1) := vR_of (cR_of (by decide +kernel) rc_1 dn_1 dn_9 (sig := ⟨[.int], some .boolean⟩) (by decide +kernel) (by decide +kernel) rfl rfl) (by decide +kernel) (by decide +kernel) (by decide +kernel)
theorem m9_36 (a0 : Int32) : M9 36 ls [.int a0, .ref b] (put b pre s A L B post) Q = M1 0 [.val (.ref b), .val (.int a0)] [] (put b pre s A L B post) (fun v H1 => M9 39 ls (v.toList ++ []) H1 Q) := w_virt (as := [.int a0]) (rest := []) (a := b) at_36 cr9_12 put_o rfl rfl (Nat.le_of_ble_eq_true rfl) (by show 2 ≤ 2; omega) rfl
theorem m9_39u : M9 39 [l0, l1, l2, l3, l4, .unset, l6] ((.int v) :: st) H Q = M9 41 [l0, l1, l2, l3, l4, .val (.int v), l6] st H Q := w_st (i := 5) (p := isI) at_39 rfl rfl rfl rfl rfl rfl
theorem m9_41 : M9 41 [l0, l1, l2, l3, l4, .val (.int v), l6] st H Q = M9 43 [l0, l1, l2, l3, l4, .val (.int v), l6] (.int v :: st) H Q := w_x at_41 rfl
theorem m9_43 : M9 43 [l0, l1, l2, l3, .val (.int v), l5, l6] st H Q = M9 45 [l0, l1, l2, l3, .val (.int v), l5, l6] (.int v :: st) H Q := w_x at_43 rfl
theorem m9_45 : M9 45 ls (.int y :: .int x :: st) H Q = if x = y then M9 50 ls st H Q else M9 48 ls st H Q := w_icmp at_45 (i_eq x y) rfl
theorem m9_48 : M9 48 ls st H Q = M9 49 ls (.int 0 :: st) H Q := w_con at_48 rfl (by decide)
theorem m9_49 : M9 49 ls (.int z :: st) H Q = Q (some (.int (nar .boolean z))) H := w_iretN at_49 rfl (by simp)
theorem m9_50 : M9 50 [l0, l1, l2, l3, .val (.int v), l5, l6] st H Q = M9 52 [l0, l1, l2, l3, .val (.int v), l5, l6] (.int v :: st) H Q := w_x at_50 rfl
theorem m9_52 : M9 52 ls (.int x :: st) H Q = if x = 0 then M9 59 ls st H Q else M9 55 ls st H Q := w_if at_52 (z_eq x) rfl
theorem m9_55 : M9 55 ls st H Q = M9 56 ls (.int 1 :: st) H Q := w_con at_55 rfl (by decide)
theorem m9_56 : M9 56 ls st H Q = M9 60 ls st H Q := w_x at_56 rfl
theorem m9_59 : M9 59 ls st H Q = M9 60 ls (.int 0 :: st) H Q := w_con at_59 rfl (by decide)
theorem m9_60u : M9 60 [l0, l1, l2, l3, l4, l5, .unset] ((.int v) :: st) H Q = M9 62 [l0, l1, l2, l3, l4, l5, .val (.int v)] st H Q := w_st (i := 6) (p := isI) at_60 rfl rfl rfl rfl rfl rfl
theorem m9_62 : M9 62 [l0, l1, l2, .val (.ref r), l4, l5, l6] st H Q = M9 63 [l0, l1, l2, .val (.ref r), l4, l5, l6] (.ref r :: st) H Q := w_x at_62 rfl
theorem cr9_16 : vR tables_1 dn y9 16 = some (false, y3, prog_1_method_8_code, 1, (some .int), 0, 15) := vR_of (cR_of (by decide +kernel) rc_3 dn_3 dn_9 (sig := ⟨[], some .int⟩) (by decide +kernel) (by decide +kernel) rfl rfl) (by decide +kernel) (by decide +kernel) (by decide +kernel)
theorem m9_63 : M9 63 ls [.ref b] (put b pre s A L B post) Q = M3 0 [.val (.ref b)] [] (put b pre s A L B post) (fun v H1 => M9 66 ls (v.toList ++ []) H1 Q) := w_virt (as := []) (rest := []) (a := b) at_63 cr9_16 put_o rfl rfl (Nat.le_of_ble_eq_true rfl) (by show 1 ≤ 1; omega) rfl
theorem m9_66 : M9 66 [l0, l1, l2, l3, l4, l5, .val (.int v)] st H Q = M9 68 [l0, l1, l2, l3, l4, l5, .val (.int v)] (.int v :: st) H Q := w_x at_66 rfl
theorem m9_68 : M9 68 ls (.int y :: .int x :: st) H Q = if x = y then M9 73 ls st H Q else M9 71 ls st H Q := w_icmp at_68 (i_eq x y) rfl
theorem m9_71 : M9 71 ls st H Q = M9 72 ls (.int 0 :: st) H Q := w_con at_71 rfl (by decide)
theorem m9_72 : M9 72 ls (.int z :: st) H Q = Q (some (.int (nar .boolean z))) H := w_iretN at_72 rfl (by simp)
theorem m9_73 : M9 73 [l0, l1, l2, .val (.ref r), l4, l5, l6] st H Q = M9 74 [l0, l1, l2, .val (.ref r), l4, l5, l6] (.ref r :: st) H Q := w_x at_73 rfl
theorem cr9_20 : vR tables_1 dn y9 20 = some (false, y4, prog_1_method_6_code, 1, (some .int), 0, 15) := vR_of (cR_of (by decide +kernel) rc_4 dn_4 dn_9 (sig := ⟨[], some .int⟩) (by decide +kernel) (by decide +kernel) rfl rfl) (by decide +kernel) (by decide +kernel) (by decide +kernel)
theorem m9_74 : M9 74 ls [.ref b] (put b pre s A L B post) Q = M4 0 [.val (.ref b)] [] (put b pre s A L B post) (fun v H1 => M9 77 ls (v.toList ++ []) H1 Q) := w_virt (as := []) (rest := []) (a := b) at_74 cr9_20 put_o rfl rfl (Nat.le_of_ble_eq_true rfl) (by show 1 ≤ 1; omega) rfl
theorem m9_77 : M9 77 ls (.int x :: st) H Q = if x = 0 then M9 82 ls st H Q else M9 80 ls st H Q := w_if at_77 (z_eq x) rfl
theorem m9_80 : M9 80 ls st H Q = M9 81 ls (.int 0 :: st) H Q := w_con at_80 rfl (by decide)
theorem m9_81 : M9 81 ls (.int z :: st) H Q = Q (some (.int (nar .boolean z))) H := w_iretN at_81 rfl (by simp)
theorem m9_82 : M9 82 [l0, l1, l2, .val (.ref r), l4, l5, l6] st H Q = M9 83 [l0, l1, l2, .val (.ref r), l4, l5, l6] (.ref r :: st) H Q := w_x at_82 rfl
theorem cr9_23 : vR tables_1 dn y9 23 = some (false, y5, prog_1_method_7_code, 1, (some .int), 0, 15) := vR_of (cR_of (by decide +kernel) rc_5 dn_5 dn_9 (sig := ⟨[], some .int⟩) (by decide +kernel) (by decide +kernel) rfl rfl) (by decide +kernel) (by decide +kernel) (by decide +kernel)
theorem m9_83 : M9 83 ls [.ref b] (put b pre s A L B post) Q = M5 0 [.val (.ref b)] [] (put b pre s A L B post) (fun v H1 => M9 86 ls (v.toList ++ []) H1 Q) := w_virt (as := []) (rest := []) (a := b) at_83 cr9_23 put_o rfl rfl (Nat.le_of_ble_eq_true rfl) (by show 1 ≤ 1; omega) rfl
theorem m9_86 : M9 86 ls (.int x :: st) H Q = if x = 0 then M9 91 ls st H Q else M9 89 ls st H Q := w_if at_86 (z_eq x) rfl
theorem m9_89 : M9 89 ls st H Q = M9 90 ls (.int 0 :: st) H Q := w_con at_89 rfl (by decide)
theorem m9_90 : M9 90 ls (.int z :: st) H Q = Q (some (.int (nar .boolean z))) H := w_iretN at_90 rfl (by simp)
theorem m9_91 : M9 91 [l0, l1, l2, .val (.ref r), l4, l5, l6] st H Q = M9 92 [l0, l1, l2, .val (.ref r), l4, l5, l6] (.ref r :: st) H Q := w_x at_91 rfl
theorem cr9_26 : vR tables_1 dn y9 26 = some (false, y6, prog_1_method_9_code, 1, (some .int), 0, 15) := vR_of (cR_of (by decide +kernel) rc_6 dn_6 dn_9 (sig := ⟨[], some .int⟩) (by decide +kernel) (by decide +kernel) rfl rfl) (by decide +kernel) (by decide +kernel) (by decide +kernel)
theorem m9_92 : M9 92 ls [.ref b] (put b pre s A L B post) Q = M6 0 [.val (.ref b)] [] (put b pre s A L B post) (fun v H1 => M9 95 ls (v.toList ++ []) H1 Q) := w_virt (as := []) (rest := []) (a := b) at_92 cr9_26 put_o rfl rfl (Nat.le_of_ble_eq_true rfl) (by show 1 ≤ 1; omega) rfl
theorem m9_95 : M9 95 ls (.int x :: st) H Q = if x = 0 then M9 100 ls st H Q else M9 98 ls st H Q := w_if at_95 (z_eq x) rfl
theorem m9_98 : M9 98 ls st H Q = M9 99 ls (.int 0 :: st) H Q := w_con at_98 rfl (by decide)
theorem m9_99 : M9 99 ls (.int z :: st) H Q = Q (some (.int (nar .boolean z))) H := w_iretN at_99 rfl (by simp)
theorem m9_100 : M9 100 [l0, l1, l2, .val (.ref r), l4, l5, l6] st H Q = M9 101 [l0, l1, l2, .val (.ref r), l4, l5, l6] (.ref r :: st) H Q := w_x at_100 rfl
theorem m9_101 : M9 101 [l0, l1, .val (.int v), l3, l4, l5, l6] st H Q = M9 102 [l0, l1, .val (.int v), l3, l4, l5, l6] (.int v :: st) H Q := w_x at_101 rfl
theorem cr9_29 : vR tables_1 dn y9 29 = some (false, y7, prog_1_method_10_code, 2, (some .int), 1, 1) := vR_of (cR_of (by decide +kernel) rc_7 dn_7 dn_9 (sig := ⟨[.int], some .int⟩) (by decide +kernel) (by decide +kernel) rfl rfl) (by decide +kernel) (by decide +kernel) (by decide +kernel)
theorem m9_102 (a0 : Int32) : M9 102 ls [.int a0, .ref b] (put b pre s A L B post) Q = M7 0 [.val (.ref b), .val (.int a0)] [] (put b pre s A L B post) (fun v H1 => M9 105 ls (v.toList ++ []) H1 Q) := w_virt (as := [.int a0]) (rest := []) (a := b) at_102 cr9_29 put_o rfl rfl (Nat.le_of_ble_eq_true rfl) (by show 2 ≤ 2; omega) rfl
theorem m9_105 : M9 105 ls st H Q = M9 106 ls (.int (-1) :: st) H Q := w_con at_105 rfl (by decide)
theorem m9_106 : M9 106 ls (.int y :: .int x :: st) H Q = if x = y then M9 109 ls st H Q else M9 113 ls st H Q := w_icmpN at_106 (i_ne x y) rfl
theorem m9_109 : M9 109 ls st H Q = M9 110 ls (.int 1 :: st) H Q := w_con at_109 rfl (by decide)
theorem m9_110 : M9 110 ls st H Q = M9 114 ls st H Q := w_x at_110 rfl
theorem m9_113 : M9 113 ls st H Q = M9 114 ls (.int 0 :: st) H Q := w_con at_113 rfl (by decide)
theorem m9_114 : M9 114 ls (.int z :: st) H Q = Q (some (.int (nar .boolean z))) H := w_iretN at_114 rfl (by simp)
theorem m0_4a (hH : H.length = b) {vs : List Value} {r : AHeap} (hj : 0 < vs.length) : M0 4 (.val (.ref b) :: [l1, l2]) [] (H ++ (.object "MacroAssembler", vs) :: r) Q = M0 9 (.val (.ref b) :: [l1, l2]) [] (H ++ (.object "MacroAssembler", vs.set 0 (.int 1)) :: r) Q := w_iint (v := .int 1) rfl hH (Nat.zero_le _) (show decode kb0 4 = .ok (.aload_n 0, 1) from by decide +kernel) rfl (show decode kb0 5 = .ok (.iconst 1, 1) from by decide +kernel) (fun _ => rfl) (by decide) (show decode kb0 6 = .ok (.putfield 7, 3) from by decide +kernel) pf0_7 rfl hj
theorem m0_9a (hH : H.length = b) {vs : List Value} {r : AHeap} (hj : 1 < vs.length) : M0 9 (.val (.ref b) :: [l1, l2]) [] (H ++ (.object "MacroAssembler", vs) :: r) Q = M0 14 (.val (.ref b) :: [l1, l2]) [] (H ++ (.object "MacroAssembler", vs.set 1 (.int 2)) :: r) Q := w_iint (v := .int 2) rfl hH (Nat.zero_le _) (show decode kb0 9 = .ok (.aload_n 0, 1) from by decide +kernel) rfl (show decode kb0 10 = .ok (.iconst 2, 1) from by decide +kernel) (fun _ => rfl) (by decide) (show decode kb0 11 = .ok (.putfield 13, 3) from by decide +kernel) pf0_13 rfl hj
theorem m0_14a (hH : H.length = b) {vs : List Value} {r : AHeap} (hj : 2 < vs.length) : M0 14 (.val (.ref b) :: [l1, l2]) [] (H ++ (.object "MacroAssembler", vs) :: r) Q = M0 19 (.val (.ref b) :: [l1, l2]) [] (H ++ (.object "MacroAssembler", vs.set 2 (.int 1)) :: r) Q := w_iint (v := .int 1) rfl hH (Nat.zero_le _) (show decode kb0 14 = .ok (.aload_n 0, 1) from by decide +kernel) rfl (show decode kb0 15 = .ok (.iconst 1, 1) from by decide +kernel) (fun _ => rfl) (by decide) (show decode kb0 16 = .ok (.putfield 16, 3) from by decide +kernel) pf0_16 rfl hj
theorem m0_19a (hH : H.length = b) {vs : List Value} {r : AHeap} (hj : 3 < vs.length) : M0 19 (.val (.ref b) :: [l1, l2]) [] (H ++ (.object "MacroAssembler", vs) :: r) Q = M0 24 (.val (.ref b) :: [l1, l2]) [] (H ++ (.object "MacroAssembler", vs.set 3 (.int 2)) :: r) Q := w_iint (v := .int 2) rfl hH (Nat.zero_le _) (show decode kb0 19 = .ok (.aload_n 0, 1) from by decide +kernel) rfl (show decode kb0 20 = .ok (.iconst 2, 1) from by decide +kernel) (fun _ => rfl) (by decide) (show decode kb0 21 = .ok (.putfield 19, 3) from by decide +kernel) pf0_19 rfl hj
theorem m0_24a (hH : H.length = b) {vs : List Value} {r : AHeap} (hj : 4 < vs.length) : M0 24 (.val (.ref b) :: [l1, l2]) [] (H ++ (.object "MacroAssembler", vs) :: r) Q = M0 29 (.val (.ref b) :: [l1, l2]) [] (H ++ (.object "MacroAssembler", vs.set 4 (.int 3)) :: r) Q := w_iint (v := .int 3) rfl hH (Nat.zero_le _) (show decode kb0 24 = .ok (.aload_n 0, 1) from by decide +kernel) rfl (show decode kb0 25 = .ok (.iconst 3, 1) from by decide +kernel) (fun _ => rfl) (by decide) (show decode kb0 26 = .ok (.putfield 22, 3) from by decide +kernel) pf0_22 rfl hj
theorem m0_29a (hH : H.length = b) {vs : List Value} {r : AHeap} (hj : 5 < vs.length) : M0 29 (.val (.ref b) :: [l1, l2]) [] (H ++ (.object "MacroAssembler", vs) :: r) Q = M0 34 (.val (.ref b) :: [l1, l2]) [] (H ++ (.object "MacroAssembler", vs.set 5 (.int 0)) :: r) Q := w_iint (v := .int 0) rfl hH (Nat.zero_le _) (show decode kb0 29 = .ok (.aload_n 0, 1) from by decide +kernel) rfl (show decode kb0 30 = .ok (.iconst 0, 1) from by decide +kernel) (fun _ => rfl) (by decide) (show decode kb0 31 = .ok (.putfield 25, 3) from by decide +kernel) pf0_25 rfl hj
theorem m0_34a (hH : H.length = b) {vs : List Value} {r : AHeap} (hj : 6 < vs.length) : M0 34 (.val (.ref b) :: [l1, l2]) [] (H ++ (.object "MacroAssembler", vs) :: r) Q = M0 39 (.val (.ref b) :: [l1, l2]) [] (H ++ (.object "MacroAssembler", vs.set 6 (.int 1)) :: r) Q := w_iint (v := .int 1) rfl hH (Nat.zero_le _) (show decode kb0 34 = .ok (.aload_n 0, 1) from by decide +kernel) rfl (show decode kb0 35 = .ok (.iconst 1, 1) from by decide +kernel) (fun _ => rfl) (by decide) (show decode kb0 36 = .ok (.putfield 28, 3) from by decide +kernel) pf0_28 rfl hj
theorem m0_39a (hH : H.length = b) {vs : List Value} {r : AHeap} (hj : 7 < vs.length) : M0 39 (.val (.ref b) :: [l1, l2]) [] (H ++ (.object "MacroAssembler", vs) :: r) Q = M0 44 (.val (.ref b) :: [l1, l2]) [] (H ++ (.object "MacroAssembler", vs.set 7 (.int 2)) :: r) Q := w_iint (v := .int 2) rfl hH (Nat.zero_le _) (show decode kb0 39 = .ok (.aload_n 0, 1) from by decide +kernel) rfl (show decode kb0 40 = .ok (.iconst 2, 1) from by decide +kernel) (fun _ => rfl) (by decide) (show decode kb0 41 = .ok (.putfield 31, 3) from by decide +kernel) pf0_31 rfl hj
theorem m0_44a (hH : H.length = b) {vs : List Value} {r : AHeap} (hj : 8 < vs.length) : M0 44 (.val (.ref b) :: [l1, l2]) [] (H ++ (.object "MacroAssembler", vs) :: r) Q = M0 49 (.val (.ref b) :: [l1, l2]) [] (H ++ (.object "MacroAssembler", vs.set 8 (.int 0)) :: r) Q := w_iint (v := .int 0) rfl hH (Nat.zero_le _) (show decode kb0 44 = .ok (.aload_n 0, 1) from by decide +kernel) rfl (show decode kb0 45 = .ok (.iconst 0, 1) from by decide +kernel) (fun _ => rfl) (by decide) (show decode kb0 46 = .ok (.putfield 34, 3) from by decide +kernel) pf0_34 rfl hj
theorem m0_49a (hH : H.length = b) {vs : List Value} {r : AHeap} (hj : 9 < vs.length) : M0 49 (.val (.ref b) :: [l1, l2]) [] (H ++ (.object "MacroAssembler", vs) :: r) Q = M0 54 (.val (.ref b) :: [l1, l2]) [] (H ++ (.object "MacroAssembler", vs.set 9 (.int 1)) :: r) Q := w_iint (v := .int 1) rfl hH (Nat.zero_le _) (show decode kb0 49 = .ok (.aload_n 0, 1) from by decide +kernel) rfl (show decode kb0 50 = .ok (.iconst 1, 1) from by decide +kernel) (fun _ => rfl) (by decide) (show decode kb0 51 = .ok (.putfield 37, 3) from by decide +kernel) pf0_37 rfl hj
theorem m0_54a (hH : H.length = b) {vs : List Value} {r : AHeap} (hj : 10 < vs.length) : M0 54 (.val (.ref b) :: [l1, l2]) [] (H ++ (.object "MacroAssembler", vs) :: r) Q = M0 59 (.val (.ref b) :: [l1, l2]) [] (H ++ (.object "MacroAssembler", vs.set 10 (.int 2)) :: r) Q := w_iint (v := .int 2) rfl hH (Nat.zero_le _) (show decode kb0 54 = .ok (.aload_n 0, 1) from by decide +kernel) rfl (show decode kb0 55 = .ok (.iconst 2, 1) from by decide +kernel) (fun _ => rfl) (by decide) (show decode kb0 56 = .ok (.putfield 40, 3) from by decide +kernel) pf0_40 rfl hj
theorem m0_59a (hH : H.length = b) {vs : List Value} {r : AHeap} (hj : 11 < vs.length) : M0 59 (.val (.ref b) :: [l1, l2]) [] (H ++ (.object "MacroAssembler", vs) :: r) Q = M0 65 (.val (.ref b) :: [l1, l2]) [] (H ++ (.object "MacroAssembler", vs.set 11 (.int 10)) :: r) Q := w_iint (v := .int 10) rfl hH (Nat.zero_le _) (show decode kb0 59 = .ok (.aload_n 0, 1) from by decide +kernel) rfl (show decode kb0 60 = .ok (.bipush 10, 2) from by decide +kernel) (fun _ => rfl) (by decide) (show decode kb0 62 = .ok (.putfield 43, 3) from by decide +kernel) pf0_43 rfl hj
theorem m0_65a (hH : H.length = b) {vs : List Value} {r : AHeap} (hj : 12 < vs.length) : M0 65 (.val (.ref b) :: [l1, l2]) [] (H ++ (.object "MacroAssembler", vs) :: r) Q = M0 71 (.val (.ref b) :: [l1, l2]) [] (H ++ (.object "MacroAssembler", vs.set 12 (.int 11)) :: r) Q := w_iint (v := .int 11) rfl hH (Nat.zero_le _) (show decode kb0 65 = .ok (.aload_n 0, 1) from by decide +kernel) rfl (show decode kb0 66 = .ok (.bipush 11, 2) from by decide +kernel) (fun _ => rfl) (by decide) (show decode kb0 68 = .ok (.putfield 46, 3) from by decide +kernel) pf0_46 rfl hj
theorem m0_71a (hH : H.length = b) {vs : List Value} {r : AHeap} (hj : 13 < vs.length) : M0 71 (.val (.ref b) :: [l1, l2]) [] (H ++ (.object "MacroAssembler", vs) :: r) Q = M0 77 (.val (.ref b) :: [l1, l2]) [] (H ++ (.object "MacroAssembler", vs.set 13 (.int 12)) :: r) Q := w_iint (v := .int 12) rfl hH (Nat.zero_le _) (show decode kb0 71 = .ok (.aload_n 0, 1) from by decide +kernel) rfl (show decode kb0 72 = .ok (.bipush 12, 2) from by decide +kernel) (fun _ => rfl) (by decide) (show decode kb0 74 = .ok (.putfield 49, 3) from by decide +kernel) pf0_49 rfl hj
theorem m0_77a (hH : H.length = b) {vs : List Value} {r : AHeap} (hj : 14 < vs.length) : M0 77 (.val (.ref b) :: [l1, l2]) [] (H ++ (.object "MacroAssembler", vs) :: r) Q = M0 83 (.val (.ref b) :: [l1, l2]) [] (H ++ (.object "MacroAssembler", vs.set 14 (.int 13)) :: r) Q := w_iint (v := .int 13) rfl hH (Nat.zero_le _) (show decode kb0 77 = .ok (.aload_n 0, 1) from by decide +kernel) rfl (show decode kb0 78 = .ok (.bipush 13, 2) from by decide +kernel) (fun _ => rfl) (by decide) (show decode kb0 80 = .ok (.putfield 52, 3) from by decide +kernel) pf0_52 rfl hj
theorem m0_83a (hH : H.length = b) {vs : List Value} {r : AHeap} (hj : 15 < vs.length) : M0 83 (.val (.ref b) :: [l1, l2]) [] (H ++ (.object "MacroAssembler", vs) :: r) Q = M0 89 (.val (.ref b) :: [l1, l2]) [] (H ++ (.object "MacroAssembler", vs.set 15 (.int 14)) :: r) Q := w_iint (v := .int 14) rfl hH (Nat.zero_le _) (show decode kb0 83 = .ok (.aload_n 0, 1) from by decide +kernel) rfl (show decode kb0 84 = .ok (.bipush 14, 2) from by decide +kernel) (fun _ => rfl) (by decide) (show decode kb0 86 = .ok (.putfield 55, 3) from by decide +kernel) pf0_55 rfl hj
theorem m0_89a (hH : H.length = b) {vs : List Value} {r : AHeap} (hj : 16 < vs.length) : M0 89 (.val (.ref b) :: [l1, l2]) [] (H ++ (.object "MacroAssembler", vs) :: r) Q = M0 95 (.val (.ref b) :: [l1, l2]) [] (H ++ (.object "MacroAssembler", vs.set 16 (.int 15)) :: r) Q := w_iint (v := .int 15) rfl hH (Nat.zero_le _) (show decode kb0 89 = .ok (.aload_n 0, 1) from by decide +kernel) rfl (show decode kb0 90 = .ok (.bipush 15, 2) from by decide +kernel) (fun _ => rfl) (by decide) (show decode kb0 92 = .ok (.putfield 58, 3) from by decide +kernel) pf0_58 rfl hj
theorem m0_95a (hH : H.length = b) {vs : List Value} {r : AHeap} (hj : 17 < vs.length) : M0 95 (.val (.ref b) :: [l1, l2]) [] (H ++ (.object "MacroAssembler", vs) :: r) Q = M0 101 (.val (.ref b) :: [l1, l2]) [] (H ++ (.object "MacroAssembler", vs.set 17 (.int 16)) :: r) Q := w_iint (v := .int 16) rfl hH (Nat.zero_le _) (show decode kb0 95 = .ok (.aload_n 0, 1) from by decide +kernel) rfl (show decode kb0 96 = .ok (.bipush 16, 2) from by decide +kernel) (fun _ => rfl) (by decide) (show decode kb0 98 = .ok (.putfield 61, 3) from by decide +kernel) pf0_61 rfl hj
theorem m0_101a (hH : H.length = b) {vs : List Value} {r : AHeap} (hj : 18 < vs.length) : M0 101 (.val (.ref b) :: [l1, l2]) [] (H ++ (.object "MacroAssembler", vs) :: r) Q = M0 107 (.val (.ref b) :: [l1, l2]) [] (H ++ (.object "MacroAssembler", vs.set 18 (.int 17)) :: r) Q := w_iint (v := .int 17) rfl hH (Nat.zero_le _) (show decode kb0 101 = .ok (.aload_n 0, 1) from by decide +kernel) rfl (show decode kb0 102 = .ok (.bipush 17, 2) from by decide +kernel) (fun _ => rfl) (by decide) (show decode kb0 104 = .ok (.putfield 64, 3) from by decide +kernel) pf0_64 rfl hj
theorem m0_107a (hH : H.length = b) {vs : List Value} {r : AHeap} (hj : 19 < vs.length) : M0 107 (.val (.ref b) :: [l1, l2]) [] (H ++ (.object "MacroAssembler", vs) :: r) Q = M0 113 (.val (.ref b) :: [l1, l2]) [] (H ++ (.object "MacroAssembler", vs.set 19 (.int 18)) :: r) Q := w_iint (v := .int 18) rfl hH (Nat.zero_le _) (show decode kb0 107 = .ok (.aload_n 0, 1) from by decide +kernel) rfl (show decode kb0 108 = .ok (.bipush 18, 2) from by decide +kernel) (fun _ => rfl) (by decide) (show decode kb0 110 = .ok (.putfield 67, 3) from by decide +kernel) pf0_67 rfl hj
theorem m0_113a (hH : H.length = b) {vs : List Value} {r : AHeap} (hj : 20 < vs.length) : M0 113 (.val (.ref b) :: [l1, l2]) [] (H ++ (.object "MacroAssembler", vs) :: r) Q = M0 119 (.val (.ref b) :: [l1, l2]) [] (H ++ (.object "MacroAssembler", vs.set 20 (.int 81)) :: r) Q := w_iint (v := .int 81) rfl hH (Nat.zero_le _) (show decode kb0 113 = .ok (.aload_n 0, 1) from by decide +kernel) rfl (show decode kb0 114 = .ok (.bipush 81, 2) from by decide +kernel) (fun _ => rfl) (by decide) (show decode kb0 116 = .ok (.putfield 70, 3) from by decide +kernel) pf0_70 rfl hj
theorem pf0_73 : pfR tables_1 y0.cls y0.name 73 = some ("MacroAssembler", 21, .array .char) := by decide +kernel
theorem m0_119a (hH : H.length = b) {vs : List Value} {r : AHeap} (hj : 21 < vs.length) : M0 119 (.val (.ref b) :: [l1, l2]) [] (H ++ (.object "MacroAssembler", vs) :: r) Q = M0 128 (.val (.ref b) :: [l1, l2]) [] (H ++ (.object "MacroAssembler", vs.set 21 (.ref (b + (r.length + 1)))) :: (r ++ [(.array .char, List.replicate 640 (.int 0))])) Q := w_iarr (n := 640) rfl hH (Nat.zero_le _) (show decode kb0 119 = .ok (.aload_n 0, 1) from by decide +kernel) rfl (show decode kb0 120 = .ok (.sipush 640, 3) from by decide +kernel) (fun _ => rfl) (by decide) (show decode kb0 123 = .ok (.newarray .char, 2) from by decide +kernel) rfl (by decide +kernel) (by decide) (by decide) rfl (show decode kb0 125 = .ok (.putfield 73, 3) from by decide +kernel) pf0_73 hj
theorem pf0_77 : pfR tables_1 y0.cls y0.name 77 = some ("MacroAssembler", 22, .array .int) := by decide +kernel
theorem m0_128a (hH : H.length = b) {vs : List Value} {r : AHeap} (hj : 22 < vs.length) : M0 128 (.val (.ref b) :: [l1, l2]) [] (H ++ (.object "MacroAssembler", vs) :: r) Q = M0 137 (.val (.ref b) :: [l1, l2]) [] (H ++ (.object "MacroAssembler", vs.set 22 (.ref (b + (r.length + 1)))) :: (r ++ [(.array .int, List.replicate 640 (.int 0))])) Q := w_iarr (n := 640) rfl hH (Nat.zero_le _) (show decode kb0 128 = .ok (.aload_n 0, 1) from by decide +kernel) rfl (show decode kb0 129 = .ok (.sipush 640, 3) from by decide +kernel) (fun _ => rfl) (by decide) (show decode kb0 132 = .ok (.newarray .int, 2) from by decide +kernel) rfl (by decide +kernel) (by decide) (by decide) rfl (show decode kb0 134 = .ok (.putfield 77, 3) from by decide +kernel) pf0_77 hj
theorem pf0_81 : pfR tables_1 y0.cls y0.name 81 = some ("MacroAssembler", 23, .array .int) := by decide +kernel
theorem m0_137a (hH : H.length = b) {vs : List Value} {r : AHeap} (hj : 23 < vs.length) : M0 137 (.val (.ref b) :: [l1, l2]) [] (H ++ (.object "MacroAssembler", vs) :: r) Q = M0 146 (.val (.ref b) :: [l1, l2]) [] (H ++ (.object "MacroAssembler", vs.set 23 (.ref (b + (r.length + 1)))) :: (r ++ [(.array .int, List.replicate 640 (.int 0))])) Q := w_iarr (n := 640) rfl hH (Nat.zero_le _) (show decode kb0 137 = .ok (.aload_n 0, 1) from by decide +kernel) rfl (show decode kb0 138 = .ok (.sipush 640, 3) from by decide +kernel) (fun _ => rfl) (by decide) (show decode kb0 141 = .ok (.newarray .int, 2) from by decide +kernel) rfl (by decide +kernel) (by decide) (by decide) rfl (show decode kb0 143 = .ok (.putfield 81, 3) from by decide +kernel) pf0_81 hj
theorem pf0_84 : pfR tables_1 y0.cls y0.name 84 = some ("MacroAssembler", 24, .array .int) := by decide +kernel
theorem m0_146a (hH : H.length = b) {vs : List Value} {r : AHeap} (hj : 24 < vs.length) : M0 146 (.val (.ref b) :: [l1, l2]) [] (H ++ (.object "MacroAssembler", vs) :: r) Q = M0 154 (.val (.ref b) :: [l1, l2]) [] (H ++ (.object "MacroAssembler", vs.set 24 (.ref (b + (r.length + 1)))) :: (r ++ [(.array .int, List.replicate 32 (.int 0))])) Q := w_iarr (n := 32) rfl hH (Nat.zero_le _) (show decode kb0 146 = .ok (.aload_n 0, 1) from by decide +kernel) rfl (show decode kb0 147 = .ok (.bipush 32, 2) from by decide +kernel) (fun _ => rfl) (by decide) (show decode kb0 149 = .ok (.newarray .int, 2) from by decide +kernel) rfl (by decide +kernel) (by decide) (by decide) rfl (show decode kb0 151 = .ok (.putfield 84, 3) from by decide +kernel) pf0_84 hj
theorem pf0_87 : pfR tables_1 y0.cls y0.name 87 = some ("MacroAssembler", 25, .array .long) := by decide +kernel
theorem m0_154a (hH : H.length = b) {vs : List Value} {r : AHeap} (hj : 25 < vs.length) : M0 154 (.val (.ref b) :: [l1, l2]) [] (H ++ (.object "MacroAssembler", vs) :: r) Q = M0 162 (.val (.ref b) :: [l1, l2]) [] (H ++ (.object "MacroAssembler", vs.set 25 (.ref (b + (r.length + 1)))) :: (r ++ [(.array .long, List.replicate 16 (.long 0))])) Q := w_iarr (n := 16) rfl hH (Nat.zero_le _) (show decode kb0 154 = .ok (.aload_n 0, 1) from by decide +kernel) rfl (show decode kb0 155 = .ok (.bipush 16, 2) from by decide +kernel) (fun _ => rfl) (by decide) (show decode kb0 157 = .ok (.newarray .long, 2) from by decide +kernel) rfl (by decide +kernel) (by decide) (by decide) rfl (show decode kb0 159 = .ok (.putfield 87, 3) from by decide +kernel) pf0_87 hj
theorem pf0_91 : pfR tables_1 y0.cls y0.name 91 = some ("MacroAssembler", 26, .array .int) := by decide +kernel
theorem m0_162a (hH : H.length = b) {vs : List Value} {r : AHeap} (hj : 26 < vs.length) : M0 162 (.val (.ref b) :: [l1, l2]) [] (H ++ (.object "MacroAssembler", vs) :: r) Q = M0 170 (.val (.ref b) :: [l1, l2]) [] (H ++ (.object "MacroAssembler", vs.set 26 (.ref (b + (r.length + 1)))) :: (r ++ [(.array .int, List.replicate 16 (.int 0))])) Q := w_iarr (n := 16) rfl hH (Nat.zero_le _) (show decode kb0 162 = .ok (.aload_n 0, 1) from by decide +kernel) rfl (show decode kb0 163 = .ok (.bipush 16, 2) from by decide +kernel) (fun _ => rfl) (by decide) (show decode kb0 165 = .ok (.newarray .int, 2) from by decide +kernel) rfl (by decide +kernel) (by decide) (by decide) rfl (show decode kb0 167 = .ok (.putfield 91, 3) from by decide +kernel) pf0_91 hj
theorem pf0_94 : pfR tables_1 y0.cls y0.name 94 = some ("MacroAssembler", 27, .array .char) := by decide +kernel
theorem m0_170a (hH : H.length = b) {vs : List Value} {r : AHeap} (hj : 27 < vs.length) : M0 170 (.val (.ref b) :: [l1, l2]) [] (H ++ (.object "MacroAssembler", vs) :: r) Q = M0 179 (.val (.ref b) :: [l1, l2]) [] (H ++ (.object "MacroAssembler", vs.set 27 (.ref (b + (r.length + 1)))) :: (r ++ [(.array .char, List.replicate 624 (.int 0))])) Q := w_iarr (n := 624) rfl hH (Nat.zero_le _) (show decode kb0 170 = .ok (.aload_n 0, 1) from by decide +kernel) rfl (show decode kb0 171 = .ok (.sipush 624, 3) from by decide +kernel) (fun _ => rfl) (by decide) (show decode kb0 174 = .ok (.newarray .char, 2) from by decide +kernel) rfl (by decide +kernel) (by decide) (by decide) rfl (show decode kb0 176 = .ok (.putfield 94, 3) from by decide +kernel) pf0_94 hj
theorem pf0_97 : pfR tables_1 y0.cls y0.name 97 = some ("MacroAssembler", 28, .array .char) := by decide +kernel
theorem m0_179a (hH : H.length = b) {vs : List Value} {r : AHeap} (hj : 28 < vs.length) : M0 179 (.val (.ref b) :: [l1, l2]) [] (H ++ (.object "MacroAssembler", vs) :: r) Q = M0 187 (.val (.ref b) :: [l1, l2]) [] (H ++ (.object "MacroAssembler", vs.set 28 (.ref (b + (r.length + 1)))) :: (r ++ [(.array .char, List.replicate 12 (.int 0))])) Q := w_iarr (n := 12) rfl hH (Nat.zero_le _) (show decode kb0 179 = .ok (.aload_n 0, 1) from by decide +kernel) rfl (show decode kb0 180 = .ok (.bipush 12, 2) from by decide +kernel) (fun _ => rfl) (by decide) (show decode kb0 182 = .ok (.newarray .char, 2) from by decide +kernel) rfl (by decide +kernel) (by decide) (by decide) rfl (show decode kb0 184 = .ok (.putfield 97, 3) from by decide +kernel) pf0_97 hj
theorem pf0_100 : pfR tables_1 y0.cls y0.name 100 = some ("MacroAssembler", 29, .array .long) := by decide +kernel
theorem m0_187a (hH : H.length = b) {vs : List Value} {r : AHeap} (hj : 29 < vs.length) : M0 187 (.val (.ref b) :: [l1, l2]) [] (H ++ (.object "MacroAssembler", vs) :: r) Q = M0 195 (.val (.ref b) :: [l1, l2]) [] (H ++ (.object "MacroAssembler", vs.set 29 (.ref (b + (r.length + 1)))) :: (r ++ [(.array .long, List.replicate 8 (.long 0))])) Q := w_iarr (n := 8) rfl hH (Nat.zero_le _) (show decode kb0 187 = .ok (.aload_n 0, 1) from by decide +kernel) rfl (show decode kb0 188 = .ok (.bipush 8, 2) from by decide +kernel) (fun _ => rfl) (by decide) (show decode kb0 190 = .ok (.newarray .long, 2) from by decide +kernel) rfl (by decide +kernel) (by decide) (by decide) rfl (show decode kb0 192 = .ok (.putfield 100, 3) from by decide +kernel) pf0_100 hj
theorem pf0_103 : pfR tables_1 y0.cls y0.name 103 = some ("MacroAssembler", 30, .array .int) := by decide +kernel
theorem m0_195a (hH : H.length = b) {vs : List Value} {r : AHeap} (hj : 30 < vs.length) : M0 195 (.val (.ref b) :: [l1, l2]) [] (H ++ (.object "MacroAssembler", vs) :: r) Q = M0 203 (.val (.ref b) :: [l1, l2]) [] (H ++ (.object "MacroAssembler", vs.set 30 (.ref (b + (r.length + 1)))) :: (r ++ [(.array .int, List.replicate 8 (.int 0))])) Q := w_iarr (n := 8) rfl hH (Nat.zero_le _) (show decode kb0 195 = .ok (.aload_n 0, 1) from by decide +kernel) rfl (show decode kb0 196 = .ok (.bipush 8, 2) from by decide +kernel) (fun _ => rfl) (by decide) (show decode kb0 198 = .ok (.newarray .int, 2) from by decide +kernel) rfl (by decide +kernel) (by decide) (by decide) rfl (show decode kb0 200 = .ok (.putfield 103, 3) from by decide +kernel) pf0_103 hj
theorem pf0_106 : pfR tables_1 y0.cls y0.name 106 = some ("MacroAssembler", 31, .array .int) := by decide +kernel
theorem m0_203a (hH : H.length = b) {vs : List Value} {r : AHeap} (hj : 31 < vs.length) : M0 203 (.val (.ref b) :: [l1, l2]) [] (H ++ (.object "MacroAssembler", vs) :: r) Q = M0 211 (.val (.ref b) :: [l1, l2]) [] (H ++ (.object "MacroAssembler", vs.set 31 (.ref (b + (r.length + 1)))) :: (r ++ [(.array .int, List.replicate 8 (.int 0))])) Q := w_iarr (n := 8) rfl hH (Nat.zero_le _) (show decode kb0 203 = .ok (.aload_n 0, 1) from by decide +kernel) rfl (show decode kb0 204 = .ok (.bipush 8, 2) from by decide +kernel) (fun _ => rfl) (by decide) (show decode kb0 206 = .ok (.newarray .int, 2) from by decide +kernel) rfl (by decide +kernel) (by decide) (by decide) rfl (show decode kb0 208 = .ok (.putfield 106, 3) from by decide +kernel) pf0_106 hj
theorem pf0_109 : pfR tables_1 y0.cls y0.name 109 = some ("MacroAssembler", 32, .array .int) := by decide +kernel
theorem m0_211a (hH : H.length = b) {vs : List Value} {r : AHeap} (hj : 32 < vs.length) : M0 211 (.val (.ref b) :: [l1, l2]) [] (H ++ (.object "MacroAssembler", vs) :: r) Q = M0 219 (.val (.ref b) :: [l1, l2]) [] (H ++ (.object "MacroAssembler", vs.set 32 (.ref (b + (r.length + 1)))) :: (r ++ [(.array .int, List.replicate 8 (.int 0))])) Q := w_iarr (n := 8) rfl hH (Nat.zero_le _) (show decode kb0 211 = .ok (.aload_n 0, 1) from by decide +kernel) rfl (show decode kb0 212 = .ok (.bipush 8, 2) from by decide +kernel) (fun _ => rfl) (by decide) (show decode kb0 214 = .ok (.newarray .int, 2) from by decide +kernel) rfl (by decide +kernel) (by decide) (by decide) rfl (show decode kb0 216 = .ok (.putfield 109, 3) from by decide +kernel) pf0_109 hj
theorem pf0_112 : pfR tables_1 y0.cls y0.name 112 = some ("MacroAssembler", 33, .array .boolean) := by decide +kernel
theorem m0_219a (hH : H.length = b) {vs : List Value} {r : AHeap} (hj : 33 < vs.length) : M0 219 (.val (.ref b) :: [l1, l2]) [] (H ++ (.object "MacroAssembler", vs) :: r) Q = M0 227 (.val (.ref b) :: [l1, l2]) [] (H ++ (.object "MacroAssembler", vs.set 33 (.ref (b + (r.length + 1)))) :: (r ++ [(.array .boolean, List.replicate 8 (.int 0))])) Q := w_iarr (n := 8) rfl hH (Nat.zero_le _) (show decode kb0 219 = .ok (.aload_n 0, 1) from by decide +kernel) rfl (show decode kb0 220 = .ok (.bipush 8, 2) from by decide +kernel) (fun _ => rfl) (by decide) (show decode kb0 222 = .ok (.newarray .boolean, 2) from by decide +kernel) rfl (by decide +kernel) (by decide) (by decide) rfl (show decode kb0 224 = .ok (.putfield 112, 3) from by decide +kernel) pf0_112 hj
theorem pf0_116 : pfR tables_1 y0.cls y0.name 116 = some ("MacroAssembler", 34, .array .int) := by decide +kernel
theorem m0_227a (hH : H.length = b) {vs : List Value} {r : AHeap} (hj : 34 < vs.length) : M0 227 (.val (.ref b) :: [l1, l2]) [] (H ++ (.object "MacroAssembler", vs) :: r) Q = M0 235 (.val (.ref b) :: [l1, l2]) [] (H ++ (.object "MacroAssembler", vs.set 34 (.ref (b + (r.length + 1)))) :: (r ++ [(.array .int, List.replicate 8 (.int 0))])) Q := w_iarr (n := 8) rfl hH (Nat.zero_le _) (show decode kb0 227 = .ok (.aload_n 0, 1) from by decide +kernel) rfl (show decode kb0 228 = .ok (.bipush 8, 2) from by decide +kernel) (fun _ => rfl) (by decide) (show decode kb0 230 = .ok (.newarray .int, 2) from by decide +kernel) rfl (by decide +kernel) (by decide) (by decide) rfl (show decode kb0 232 = .ok (.putfield 116, 3) from by decide +kernel) pf0_116 hj
theorem pf0_119 : pfR tables_1 y0.cls y0.name 119 = some ("MacroAssembler", 35, .array .int) := by decide +kernel
theorem m0_235a (hH : H.length = b) {vs : List Value} {r : AHeap} (hj : 35 < vs.length) : M0 235 (.val (.ref b) :: [l1, l2]) [] (H ++ (.object "MacroAssembler", vs) :: r) Q = M0 243 (.val (.ref b) :: [l1, l2]) [] (H ++ (.object "MacroAssembler", vs.set 35 (.ref (b + (r.length + 1)))) :: (r ++ [(.array .int, List.replicate 8 (.int 0))])) Q := w_iarr (n := 8) rfl hH (Nat.zero_le _) (show decode kb0 235 = .ok (.aload_n 0, 1) from by decide +kernel) rfl (show decode kb0 236 = .ok (.bipush 8, 2) from by decide +kernel) (fun _ => rfl) (by decide) (show decode kb0 238 = .ok (.newarray .int, 2) from by decide +kernel) rfl (by decide +kernel) (by decide) (by decide) rfl (show decode kb0 240 = .ok (.putfield 119, 3) from by decide +kernel) pf0_119 hj
theorem pf0_122 : pfR tables_1 y0.cls y0.name 122 = some ("MacroAssembler", 36, .array .int) := by decide +kernel
theorem m0_243a (hH : H.length = b) {vs : List Value} {r : AHeap} (hj : 36 < vs.length) : M0 243 (.val (.ref b) :: [l1, l2]) [] (H ++ (.object "MacroAssembler", vs) :: r) Q = M0 251 (.val (.ref b) :: [l1, l2]) [] (H ++ (.object "MacroAssembler", vs.set 36 (.ref (b + (r.length + 1)))) :: (r ++ [(.array .int, List.replicate 8 (.int 0))])) Q := w_iarr (n := 8) rfl hH (Nat.zero_le _) (show decode kb0 243 = .ok (.aload_n 0, 1) from by decide +kernel) rfl (show decode kb0 244 = .ok (.bipush 8, 2) from by decide +kernel) (fun _ => rfl) (by decide) (show decode kb0 246 = .ok (.newarray .int, 2) from by decide +kernel) rfl (by decide +kernel) (by decide) (by decide) rfl (show decode kb0 248 = .ok (.putfield 122, 3) from by decide +kernel) pf0_122 hj
theorem pf0_125 : pfR tables_1 y0.cls y0.name 125 = some ("MacroAssembler", 37, .array .int) := by decide +kernel
theorem m0_251a (hH : H.length = b) {vs : List Value} {r : AHeap} (hj : 37 < vs.length) : M0 251 (.val (.ref b) :: [l1, l2]) [] (H ++ (.object "MacroAssembler", vs) :: r) Q = M0 259 (.val (.ref b) :: [l1, l2]) [] (H ++ (.object "MacroAssembler", vs.set 37 (.ref (b + (r.length + 1)))) :: (r ++ [(.array .int, List.replicate 8 (.int 0))])) Q := w_iarr (n := 8) rfl hH (Nat.zero_le _) (show decode kb0 251 = .ok (.aload_n 0, 1) from by decide +kernel) rfl (show decode kb0 252 = .ok (.bipush 8, 2) from by decide +kernel) (fun _ => rfl) (by decide) (show decode kb0 254 = .ok (.newarray .int, 2) from by decide +kernel) rfl (by decide +kernel) (by decide) (by decide) rfl (show decode kb0 256 = .ok (.putfield 125, 3) from by decide +kernel) pf0_125 hj
theorem pf0_128 : pfR tables_1 y0.cls y0.name 128 = some ("MacroAssembler", 38, .array .int) := by decide +kernel
theorem m0_259a (hH : H.length = b) {vs : List Value} {r : AHeap} (hj : 38 < vs.length) : M0 259 (.val (.ref b) :: [l1, l2]) [] (H ++ (.object "MacroAssembler", vs) :: r) Q = M0 267 (.val (.ref b) :: [l1, l2]) [] (H ++ (.object "MacroAssembler", vs.set 38 (.ref (b + (r.length + 1)))) :: (r ++ [(.array .int, List.replicate 8 (.int 0))])) Q := w_iarr (n := 8) rfl hH (Nat.zero_le _) (show decode kb0 259 = .ok (.aload_n 0, 1) from by decide +kernel) rfl (show decode kb0 260 = .ok (.bipush 8, 2) from by decide +kernel) (fun _ => rfl) (by decide) (show decode kb0 262 = .ok (.newarray .int, 2) from by decide +kernel) rfl (by decide +kernel) (by decide) (by decide) rfl (show decode kb0 264 = .ok (.putfield 128, 3) from by decide +kernel) pf0_128 hj
theorem pf0_131 : pfR tables_1 y0.cls y0.name 131 = some ("MacroAssembler", 39, .array .int) := by decide +kernel
theorem m0_267a (hH : H.length = b) {vs : List Value} {r : AHeap} (hj : 39 < vs.length) : M0 267 (.val (.ref b) :: [l1, l2]) [] (H ++ (.object "MacroAssembler", vs) :: r) Q = M0 275 (.val (.ref b) :: [l1, l2]) [] (H ++ (.object "MacroAssembler", vs.set 39 (.ref (b + (r.length + 1)))) :: (r ++ [(.array .int, List.replicate 8 (.int 0))])) Q := w_iarr (n := 8) rfl hH (Nat.zero_le _) (show decode kb0 267 = .ok (.aload_n 0, 1) from by decide +kernel) rfl (show decode kb0 268 = .ok (.bipush 8, 2) from by decide +kernel) (fun _ => rfl) (by decide) (show decode kb0 270 = .ok (.newarray .int, 2) from by decide +kernel) rfl (by decide +kernel) (by decide) (by decide) rfl (show decode kb0 272 = .ok (.putfield 131, 3) from by decide +kernel) pf0_131 hj
theorem pf0_134 : pfR tables_1 y0.cls y0.name 134 = some ("MacroAssembler", 40, .array .int) := by decide +kernel
theorem m0_275a (hH : H.length = b) {vs : List Value} {r : AHeap} (hj : 40 < vs.length) : M0 275 (.val (.ref b) :: [l1, l2]) [] (H ++ (.object "MacroAssembler", vs) :: r) Q = M0 283 (.val (.ref b) :: [l1, l2]) [] (H ++ (.object "MacroAssembler", vs.set 40 (.ref (b + (r.length + 1)))) :: (r ++ [(.array .int, List.replicate 32 (.int 0))])) Q := w_iarr (n := 32) rfl hH (Nat.zero_le _) (show decode kb0 275 = .ok (.aload_n 0, 1) from by decide +kernel) rfl (show decode kb0 276 = .ok (.bipush 32, 2) from by decide +kernel) (fun _ => rfl) (by decide) (show decode kb0 278 = .ok (.newarray .int, 2) from by decide +kernel) rfl (by decide +kernel) (by decide) (by decide) rfl (show decode kb0 280 = .ok (.putfield 134, 3) from by decide +kernel) pf0_134 hj
theorem pf0_137 : pfR tables_1 y0.cls y0.name 137 = some ("MacroAssembler", 41, .array .char) := by decide +kernel
theorem m0_283a (hH : H.length = b) {vs : List Value} {r : AHeap} (hj : 41 < vs.length) : M0 283 (.val (.ref b) :: [l1, l2]) [] (H ++ (.object "MacroAssembler", vs) :: r) Q = M0 292 (.val (.ref b) :: [l1, l2]) [] (H ++ (.object "MacroAssembler", vs.set 41 (.ref (b + (r.length + 1)))) :: (r ++ [(.array .char, List.replicate 2592 (.int 0))])) Q := w_iarr (n := 2592) rfl hH (Nat.zero_le _) (show decode kb0 283 = .ok (.aload_n 0, 1) from by decide +kernel) rfl (show decode kb0 284 = .ok (.sipush 2592, 3) from by decide +kernel) (fun _ => rfl) (by decide) (show decode kb0 287 = .ok (.newarray .char, 2) from by decide +kernel) rfl (by decide +kernel) (by decide) (by decide) rfl (show decode kb0 289 = .ok (.putfield 137, 3) from by decide +kernel) pf0_137 hj
theorem pf0_140 : pfR tables_1 y0.cls y0.name 140 = some ("MacroAssembler", 42, .array .char) := by decide +kernel
theorem m0_292a (hH : H.length = b) {vs : List Value} {r : AHeap} (hj : 42 < vs.length) : M0 292 (.val (.ref b) :: [l1, l2]) [] (H ++ (.object "MacroAssembler", vs) :: r) Q = M0 301 (.val (.ref b) :: [l1, l2]) [] (H ++ (.object "MacroAssembler", vs.set 42 (.ref (b + (r.length + 1)))) :: (r ++ [(.array .char, List.replicate 640 (.int 0))])) Q := w_iarr (n := 640) rfl hH (Nat.zero_le _) (show decode kb0 292 = .ok (.aload_n 0, 1) from by decide +kernel) rfl (show decode kb0 293 = .ok (.sipush 640, 3) from by decide +kernel) (fun _ => rfl) (by decide) (show decode kb0 296 = .ok (.newarray .char, 2) from by decide +kernel) rfl (by decide +kernel) (by decide) (by decide) rfl (show decode kb0 298 = .ok (.putfield 140, 3) from by decide +kernel) pf0_140 hj
theorem pf0_143 : pfR tables_1 y0.cls y0.name 143 = some ("MacroAssembler", 43, .array .int) := by decide +kernel
theorem m0_301a (hH : H.length = b) {vs : List Value} {r : AHeap} (hj : 43 < vs.length) : M0 301 (.val (.ref b) :: [l1, l2]) [] (H ++ (.object "MacroAssembler", vs) :: r) Q = M0 310 (.val (.ref b) :: [l1, l2]) [] (H ++ (.object "MacroAssembler", vs.set 43 (.ref (b + (r.length + 1)))) :: (r ++ [(.array .int, List.replicate 640 (.int 0))])) Q := w_iarr (n := 640) rfl hH (Nat.zero_le _) (show decode kb0 301 = .ok (.aload_n 0, 1) from by decide +kernel) rfl (show decode kb0 302 = .ok (.sipush 640, 3) from by decide +kernel) (fun _ => rfl) (by decide) (show decode kb0 305 = .ok (.newarray .int, 2) from by decide +kernel) rfl (by decide +kernel) (by decide) (by decide) rfl (show decode kb0 307 = .ok (.putfield 143, 3) from by decide +kernel) pf0_143 hj
theorem pf0_146 : pfR tables_1 y0.cls y0.name 146 = some ("MacroAssembler", 44, .array .int) := by decide +kernel
theorem m0_310a (hH : H.length = b) {vs : List Value} {r : AHeap} (hj : 44 < vs.length) : M0 310 (.val (.ref b) :: [l1, l2]) [] (H ++ (.object "MacroAssembler", vs) :: r) Q = M0 319 (.val (.ref b) :: [l1, l2]) [] (H ++ (.object "MacroAssembler", vs.set 44 (.ref (b + (r.length + 1)))) :: (r ++ [(.array .int, List.replicate 640 (.int 0))])) Q := w_iarr (n := 640) rfl hH (Nat.zero_le _) (show decode kb0 310 = .ok (.aload_n 0, 1) from by decide +kernel) rfl (show decode kb0 311 = .ok (.sipush 640, 3) from by decide +kernel) (fun _ => rfl) (by decide) (show decode kb0 314 = .ok (.newarray .int, 2) from by decide +kernel) rfl (by decide +kernel) (by decide) (by decide) rfl (show decode kb0 316 = .ok (.putfield 146, 3) from by decide +kernel) pf0_146 hj
theorem pf0_149 : pfR tables_1 y0.cls y0.name 149 = some ("MacroAssembler", 45, .array .long) := by decide +kernel
theorem m0_319a (hH : H.length = b) {vs : List Value} {r : AHeap} (hj : 45 < vs.length) : M0 319 (.val (.ref b) :: [l1, l2]) [] (H ++ (.object "MacroAssembler", vs) :: r) Q = M0 328 (.val (.ref b) :: [l1, l2]) [] (H ++ (.object "MacroAssembler", vs.set 45 (.ref (b + (r.length + 1)))) :: (r ++ [(.array .long, List.replicate 640 (.long 0))])) Q := w_iarr (n := 640) rfl hH (Nat.zero_le _) (show decode kb0 319 = .ok (.aload_n 0, 1) from by decide +kernel) rfl (show decode kb0 320 = .ok (.sipush 640, 3) from by decide +kernel) (fun _ => rfl) (by decide) (show decode kb0 323 = .ok (.newarray .long, 2) from by decide +kernel) rfl (by decide +kernel) (by decide) (by decide) rfl (show decode kb0 325 = .ok (.putfield 149, 3) from by decide +kernel) pf0_149 hj
theorem pf0_152 : pfR tables_1 y0.cls y0.name 152 = some ("MacroAssembler", 46, .array .long) := by decide +kernel
theorem m0_328a (hH : H.length = b) {vs : List Value} {r : AHeap} (hj : 46 < vs.length) : M0 328 (.val (.ref b) :: [l1, l2]) [] (H ++ (.object "MacroAssembler", vs) :: r) Q = M0 336 (.val (.ref b) :: [l1, l2]) [] (H ++ (.object "MacroAssembler", vs.set 46 (.ref (b + (r.length + 1)))) :: (r ++ [(.array .long, List.replicate 16 (.long 0))])) Q := w_iarr (n := 16) rfl hH (Nat.zero_le _) (show decode kb0 328 = .ok (.aload_n 0, 1) from by decide +kernel) rfl (show decode kb0 329 = .ok (.bipush 16, 2) from by decide +kernel) (fun _ => rfl) (by decide) (show decode kb0 331 = .ok (.newarray .long, 2) from by decide +kernel) rfl (by decide +kernel) (by decide) (by decide) rfl (show decode kb0 333 = .ok (.putfield 152, 3) from by decide +kernel) pf0_152 hj
theorem pf0_155 : pfR tables_1 y0.cls y0.name 155 = some ("MacroAssembler", 47, .array .int) := by decide +kernel
theorem m0_336a (hH : H.length = b) {vs : List Value} {r : AHeap} (hj : 47 < vs.length) : M0 336 (.val (.ref b) :: [l1, l2]) [] (H ++ (.object "MacroAssembler", vs) :: r) Q = M0 344 (.val (.ref b) :: [l1, l2]) [] (H ++ (.object "MacroAssembler", vs.set 47 (.ref (b + (r.length + 1)))) :: (r ++ [(.array .int, List.replicate 16 (.int 0))])) Q := w_iarr (n := 16) rfl hH (Nat.zero_le _) (show decode kb0 336 = .ok (.aload_n 0, 1) from by decide +kernel) rfl (show decode kb0 337 = .ok (.bipush 16, 2) from by decide +kernel) (fun _ => rfl) (by decide) (show decode kb0 339 = .ok (.newarray .int, 2) from by decide +kernel) rfl (by decide +kernel) (by decide) (by decide) rfl (show decode kb0 341 = .ok (.putfield 155, 3) from by decide +kernel) pf0_155 hj
theorem pf0_158 : pfR tables_1 y0.cls y0.name 158 = some ("MacroAssembler", 48, .array .int) := by decide +kernel
theorem m0_344a (hH : H.length = b) {vs : List Value} {r : AHeap} (hj : 48 < vs.length) : M0 344 (.val (.ref b) :: [l1, l2]) [] (H ++ (.object "MacroAssembler", vs) :: r) Q = M0 352 (.val (.ref b) :: [l1, l2]) [] (H ++ (.object "MacroAssembler", vs.set 48 (.ref (b + (r.length + 1)))) :: (r ++ [(.array .int, List.replicate 32 (.int 0))])) Q := w_iarr (n := 32) rfl hH (Nat.zero_le _) (show decode kb0 344 = .ok (.aload_n 0, 1) from by decide +kernel) rfl (show decode kb0 345 = .ok (.bipush 32, 2) from by decide +kernel) (fun _ => rfl) (by decide) (show decode kb0 347 = .ok (.newarray .int, 2) from by decide +kernel) rfl (by decide +kernel) (by decide) (by decide) rfl (show decode kb0 349 = .ok (.putfield 158, 3) from by decide +kernel) pf0_158 hj
theorem pf0_161 : pfR tables_1 y0.cls y0.name 161 = some ("MacroAssembler", 49, .array .int) := by decide +kernel
theorem m0_352a (hH : H.length = b) {vs : List Value} {r : AHeap} (hj : 49 < vs.length) : M0 352 (.val (.ref b) :: [l1, l2]) [] (H ++ (.object "MacroAssembler", vs) :: r) Q = M0 360 (.val (.ref b) :: [l1, l2]) [] (H ++ (.object "MacroAssembler", vs.set 49 (.ref (b + (r.length + 1)))) :: (r ++ [(.array .int, List.replicate 32 (.int 0))])) Q := w_iarr (n := 32) rfl hH (Nat.zero_le _) (show decode kb0 352 = .ok (.aload_n 0, 1) from by decide +kernel) rfl (show decode kb0 353 = .ok (.bipush 32, 2) from by decide +kernel) (fun _ => rfl) (by decide) (show decode kb0 355 = .ok (.newarray .int, 2) from by decide +kernel) rfl (by decide +kernel) (by decide) (by decide) rfl (show decode kb0 357 = .ok (.putfield 161, 3) from by decide +kernel) pf0_161 hj
theorem pf0_164 : pfR tables_1 y0.cls y0.name 164 = some ("MacroAssembler", 50, .array .int) := by decide +kernel
theorem m0_360a (hH : H.length = b) {vs : List Value} {r : AHeap} (hj : 50 < vs.length) : M0 360 (.val (.ref b) :: [l1, l2]) [] (H ++ (.object "MacroAssembler", vs) :: r) Q = M0 368 (.val (.ref b) :: [l1, l2]) [] (H ++ (.object "MacroAssembler", vs.set 50 (.ref (b + (r.length + 1)))) :: (r ++ [(.array .int, List.replicate 32 (.int 0))])) Q := w_iarr (n := 32) rfl hH (Nat.zero_le _) (show decode kb0 360 = .ok (.aload_n 0, 1) from by decide +kernel) rfl (show decode kb0 361 = .ok (.bipush 32, 2) from by decide +kernel) (fun _ => rfl) (by decide) (show decode kb0 363 = .ok (.newarray .int, 2) from by decide +kernel) rfl (by decide +kernel) (by decide) (by decide) rfl (show decode kb0 365 = .ok (.putfield 164, 3) from by decide +kernel) pf0_164 hj
theorem pf0_167 : pfR tables_1 y0.cls y0.name 167 = some ("MacroAssembler", 51, .array .int) := by decide +kernel
theorem m0_368a (hH : H.length = b) {vs : List Value} {r : AHeap} (hj : 51 < vs.length) : M0 368 (.val (.ref b) :: [l1, l2]) [] (H ++ (.object "MacroAssembler", vs) :: r) Q = M0 376 (.val (.ref b) :: [l1, l2]) [] (H ++ (.object "MacroAssembler", vs.set 51 (.ref (b + (r.length + 1)))) :: (r ++ [(.array .int, List.replicate 32 (.int 0))])) Q := w_iarr (n := 32) rfl hH (Nat.zero_le _) (show decode kb0 368 = .ok (.aload_n 0, 1) from by decide +kernel) rfl (show decode kb0 369 = .ok (.bipush 32, 2) from by decide +kernel) (fun _ => rfl) (by decide) (show decode kb0 371 = .ok (.newarray .int, 2) from by decide +kernel) rfl (by decide +kernel) (by decide) (by decide) rfl (show decode kb0 373 = .ok (.putfield 167, 3) from by decide +kernel) pf0_167 hj
theorem pf0_170 : pfR tables_1 y0.cls y0.name 170 = some ("MacroAssembler", 52, .array .boolean) := by decide +kernel
theorem m0_376a (hH : H.length = b) {vs : List Value} {r : AHeap} (hj : 52 < vs.length) : M0 376 (.val (.ref b) :: [l1, l2]) [] (H ++ (.object "MacroAssembler", vs) :: r) Q = M0 384 (.val (.ref b) :: [l1, l2]) [] (H ++ (.object "MacroAssembler", vs.set 52 (.ref (b + (r.length + 1)))) :: (r ++ [(.array .boolean, List.replicate 32 (.int 0))])) Q := w_iarr (n := 32) rfl hH (Nat.zero_le _) (show decode kb0 376 = .ok (.aload_n 0, 1) from by decide +kernel) rfl (show decode kb0 377 = .ok (.bipush 32, 2) from by decide +kernel) (fun _ => rfl) (by decide) (show decode kb0 379 = .ok (.newarray .boolean, 2) from by decide +kernel) rfl (by decide +kernel) (by decide) (by decide) rfl (show decode kb0 381 = .ok (.putfield 170, 3) from by decide +kernel) pf0_170 hj
theorem pf0_173 : pfR tables_1 y0.cls y0.name 173 = some ("MacroAssembler", 53, .array .long) := by decide +kernel
theorem m0_384a (hH : H.length = b) {vs : List Value} {r : AHeap} (hj : 53 < vs.length) : M0 384 (.val (.ref b) :: [l1, l2]) [] (H ++ (.object "MacroAssembler", vs) :: r) Q = M0 393 (.val (.ref b) :: [l1, l2]) [] (H ++ (.object "MacroAssembler", vs.set 53 (.ref (b + (r.length + 1)))) :: (r ++ [(.array .long, List.replicate 512 (.long 0))])) Q := w_iarr (n := 512) rfl hH (Nat.zero_le _) (show decode kb0 384 = .ok (.aload_n 0, 1) from by decide +kernel) rfl (show decode kb0 385 = .ok (.sipush 512, 3) from by decide +kernel) (fun _ => rfl) (by decide) (show decode kb0 388 = .ok (.newarray .long, 2) from by decide +kernel) rfl (by decide +kernel) (by decide) (by decide) rfl (show decode kb0 390 = .ok (.putfield 173, 3) from by decide +kernel) pf0_173 hj
theorem pf0_176 : pfR tables_1 y0.cls y0.name 176 = some ("MacroAssembler", 54, .array .int) := by decide +kernel
theorem m0_393a (hH : H.length = b) {vs : List Value} {r : AHeap} (hj : 54 < vs.length) : M0 393 (.val (.ref b) :: [l1, l2]) [] (H ++ (.object "MacroAssembler", vs) :: r) Q = M0 402 (.val (.ref b) :: [l1, l2]) [] (H ++ (.object "MacroAssembler", vs.set 54 (.ref (b + (r.length + 1)))) :: (r ++ [(.array .int, List.replicate 512 (.int 0))])) Q := w_iarr (n := 512) rfl hH (Nat.zero_le _) (show decode kb0 393 = .ok (.aload_n 0, 1) from by decide +kernel) rfl (show decode kb0 394 = .ok (.sipush 512, 3) from by decide +kernel) (fun _ => rfl) (by decide) (show decode kb0 397 = .ok (.newarray .int, 2) from by decide +kernel) rfl (by decide +kernel) (by decide) (by decide) rfl (show decode kb0 399 = .ok (.putfield 176, 3) from by decide +kernel) pf0_176 hj
def A0 : Nat → List Int32
  | 0 => List.replicate 640 0
  | 1 => List.replicate 640 0
  | 2 => List.replicate 640 0
  | 3 => List.replicate 32 0
  | 4 => List.replicate 16 0
  | 5 => List.replicate 624 0
  | 6 => List.replicate 12 0
  | 7 => List.replicate 8 0
  | 8 => List.replicate 8 0
  | 9 => List.replicate 8 0
  | 10 => List.replicate 8 0
  | 11 => List.replicate 8 0
  | 12 => List.replicate 8 0
  | 13 => List.replicate 8 0
  | 14 => List.replicate 8 0
  | 15 => List.replicate 8 0
  | 16 => List.replicate 8 0
  | 17 => List.replicate 32 0
  | 18 => List.replicate 2592 0
  | 19 => List.replicate 640 0
  | 20 => List.replicate 640 0
  | 21 => List.replicate 640 0
  | 22 => List.replicate 16 0
  | 23 => List.replicate 32 0
  | 24 => List.replicate 32 0
  | 25 => List.replicate 32 0
  | 26 => List.replicate 32 0
  | 27 => List.replicate 32 0
  | 28 => List.replicate 512 0
  | _ => []
def B0 : Nat → List Int64
  | 0 => List.replicate 16 0
  | 1 => List.replicate 8 0
  | 2 => List.replicate 640 0
  | 3 => List.replicate 16 0
  | 4 => List.replicate 512 0
  | _ => []
theorem A0l_0 : (A0 0).length = 640 := List.length_replicate
theorem A0g_0 (j : Int32) : getA (A0 0) j = 0 := getA_rep _ _
theorem A0l_1 : (A0 1).length = 640 := List.length_replicate
theorem A0g_1 (j : Int32) : getA (A0 1) j = 0 := getA_rep _ _
theorem A0l_2 : (A0 2).length = 640 := List.length_replicate
theorem A0g_2 (j : Int32) : getA (A0 2) j = 0 := getA_rep _ _
theorem A0l_3 : (A0 3).length = 32 := List.length_replicate
theorem A0g_3 (j : Int32) : getA (A0 3) j = 0 := getA_rep _ _
theorem A0l_4 : (A0 4).length = 16 := List.length_replicate
theorem A0g_4 (j : Int32) : getA (A0 4) j = 0 := getA_rep _ _
theorem A0l_5 : (A0 5).length = 624 := List.length_replicate
theorem A0g_5 (j : Int32) : getA (A0 5) j = 0 := getA_rep _ _
theorem A0l_6 : (A0 6).length = 12 := List.length_replicate
theorem A0g_6 (j : Int32) : getA (A0 6) j = 0 := getA_rep _ _
theorem A0l_7 : (A0 7).length = 8 := List.length_replicate
theorem A0g_7 (j : Int32) : getA (A0 7) j = 0 := getA_rep _ _
theorem A0l_8 : (A0 8).length = 8 := List.length_replicate
theorem A0g_8 (j : Int32) : getA (A0 8) j = 0 := getA_rep _ _
theorem A0l_9 : (A0 9).length = 8 := List.length_replicate
theorem A0g_9 (j : Int32) : getA (A0 9) j = 0 := getA_rep _ _
theorem A0l_10 : (A0 10).length = 8 := List.length_replicate
theorem A0g_10 (j : Int32) : getA (A0 10) j = 0 := getA_rep _ _
theorem A0l_11 : (A0 11).length = 8 := List.length_replicate
theorem A0g_11 (j : Int32) : getA (A0 11) j = 0 := getA_rep _ _
theorem A0l_12 : (A0 12).length = 8 := List.length_replicate
theorem A0g_12 (j : Int32) : getA (A0 12) j = 0 := getA_rep _ _
theorem A0l_13 : (A0 13).length = 8 := List.length_replicate
theorem A0g_13 (j : Int32) : getA (A0 13) j = 0 := getA_rep _ _
theorem A0l_14 : (A0 14).length = 8 := List.length_replicate
theorem A0g_14 (j : Int32) : getA (A0 14) j = 0 := getA_rep _ _
theorem A0l_15 : (A0 15).length = 8 := List.length_replicate
theorem A0g_15 (j : Int32) : getA (A0 15) j = 0 := getA_rep _ _
theorem A0l_16 : (A0 16).length = 8 := List.length_replicate
theorem A0g_16 (j : Int32) : getA (A0 16) j = 0 := getA_rep _ _
theorem A0l_17 : (A0 17).length = 32 := List.length_replicate
theorem A0g_17 (j : Int32) : getA (A0 17) j = 0 := getA_rep _ _
theorem A0l_18 : (A0 18).length = 2592 := List.length_replicate
theorem A0g_18 (j : Int32) : getA (A0 18) j = 0 := getA_rep _ _
theorem A0l_19 : (A0 19).length = 640 := List.length_replicate
theorem A0g_19 (j : Int32) : getA (A0 19) j = 0 := getA_rep _ _
theorem A0l_20 : (A0 20).length = 640 := List.length_replicate
theorem A0g_20 (j : Int32) : getA (A0 20) j = 0 := getA_rep _ _
theorem A0l_21 : (A0 21).length = 640 := List.length_replicate
theorem A0g_21 (j : Int32) : getA (A0 21) j = 0 := getA_rep _ _
theorem A0l_22 : (A0 22).length = 16 := List.length_replicate
theorem A0g_22 (j : Int32) : getA (A0 22) j = 0 := getA_rep _ _
theorem A0l_23 : (A0 23).length = 32 := List.length_replicate
theorem A0g_23 (j : Int32) : getA (A0 23) j = 0 := getA_rep _ _
theorem A0l_24 : (A0 24).length = 32 := List.length_replicate
theorem A0g_24 (j : Int32) : getA (A0 24) j = 0 := getA_rep _ _
theorem A0l_25 : (A0 25).length = 32 := List.length_replicate
theorem A0g_25 (j : Int32) : getA (A0 25) j = 0 := getA_rep _ _
theorem A0l_26 : (A0 26).length = 32 := List.length_replicate
theorem A0g_26 (j : Int32) : getA (A0 26) j = 0 := getA_rep _ _
theorem A0l_27 : (A0 27).length = 32 := List.length_replicate
theorem A0g_27 (j : Int32) : getA (A0 27) j = 0 := getA_rep _ _
theorem A0l_28 : (A0 28).length = 512 := List.length_replicate
theorem A0g_28 (j : Int32) : getA (A0 28) j = 0 := getA_rep _ _
theorem B0l_0 : (B0 0).length = 16 := List.length_replicate
theorem B0l_1 : (B0 1).length = 8 := List.length_replicate
theorem B0l_2 : (B0 2).length = 640 := List.length_replicate
theorem B0l_3 : (B0 3).length = 16 := List.length_replicate
theorem B0l_4 : (B0 4).length = 512 := List.length_replicate
def S0 : Nat → Int32
  | 0 => 1
  | 1 => 2
  | 2 => 1
  | 3 => 2
  | 4 => 3
  | 5 => 0
  | 6 => 1
  | 7 => 2
  | 8 => 0
  | 9 => 1
  | 10 => 2
  | 11 => 10
  | 12 => 11
  | 13 => 12
  | 14 => 13
  | 15 => 14
  | 16 => 15
  | 17 => 16
  | 18 => 17
  | 19 => 18
  | 20 => 81
  | _ => 0
theorem own_ctor0 (hb : pre.length = b) : M0 0 (.val (.ref b) :: [l1, l2]) [] (pre ++ [(.object "MacroAssembler", D0)]) Q = M0 402 (.val (.ref b) :: [l1, l2]) [] (put b pre S0 A0 (fun _ => 0) B0 []) Q := by
  rw [m0_0, m0_1, m0_4a hb (by (repeat rw [List.length_set]); exact Nat.le_of_ble_eq_true rfl), m0_9a hb (by (repeat rw [List.length_set]); exact Nat.le_of_ble_eq_true rfl), m0_14a hb (by (repeat rw [List.length_set]); exact Nat.le_of_ble_eq_true rfl), m0_19a hb (by (repeat rw [List.length_set]); exact Nat.le_of_ble_eq_true rfl), m0_24a hb (by (repeat rw [List.length_set]); exact Nat.le_of_ble_eq_true rfl), m0_29a hb (by (repeat rw [List.length_set]); exact Nat.le_of_ble_eq_true rfl), m0_34a hb (by (repeat rw [List.length_set]); exact Nat.le_of_ble_eq_true rfl), m0_39a hb (by (repeat rw [List.length_set]); exact Nat.le_of_ble_eq_true rfl), m0_44a hb (by (repeat rw [List.length_set]); exact Nat.le_of_ble_eq_true rfl), m0_49a hb (by (repeat rw [List.length_set]); exact Nat.le_of_ble_eq_true rfl), m0_54a hb (by (repeat rw [List.length_set]); exact Nat.le_of_ble_eq_true rfl), m0_59a hb (by (repeat rw [List.length_set]); exact Nat.le_of_ble_eq_true rfl), m0_65a hb (by (repeat rw [List.length_set]); exact Nat.le_of_ble_eq_true rfl), m0_71a hb (by (repeat rw [List.length_set]); exact Nat.le_of_ble_eq_true rfl), m0_77a hb (by (repeat rw [List.length_set]); exact Nat.le_of_ble_eq_true rfl), m0_83a hb (by (repeat rw [List.length_set]); exact Nat.le_of_ble_eq_true rfl), m0_89a hb (by (repeat rw [List.length_set]); exact Nat.le_of_ble_eq_true rfl), m0_95a hb (by (repeat rw [List.length_set]); exact Nat.le_of_ble_eq_true rfl), m0_101a hb (by (repeat rw [List.length_set]); exact Nat.le_of_ble_eq_true rfl), m0_107a hb (by (repeat rw [List.length_set]); exact Nat.le_of_ble_eq_true rfl), m0_113a hb (by (repeat rw [List.length_set]); exact Nat.le_of_ble_eq_true rfl), m0_119a hb (by (repeat rw [List.length_set]); exact Nat.le_of_ble_eq_true rfl), m0_128a hb (by (repeat rw [List.length_set]); exact Nat.le_of_ble_eq_true rfl), m0_137a hb (by (repeat rw [List.length_set]); exact Nat.le_of_ble_eq_true rfl), m0_146a hb (by (repeat rw [List.length_set]); exact Nat.le_of_ble_eq_true rfl), m0_154a hb (by (repeat rw [List.length_set]); exact Nat.le_of_ble_eq_true rfl), m0_162a hb (by (repeat rw [List.length_set]); exact Nat.le_of_ble_eq_true rfl), m0_170a hb (by (repeat rw [List.length_set]); exact Nat.le_of_ble_eq_true rfl), m0_179a hb (by (repeat rw [List.length_set]); exact Nat.le_of_ble_eq_true rfl), m0_187a hb (by (repeat rw [List.length_set]); exact Nat.le_of_ble_eq_true rfl), m0_195a hb (by (repeat rw [List.length_set]); exact Nat.le_of_ble_eq_true rfl), m0_203a hb (by (repeat rw [List.length_set]); exact Nat.le_of_ble_eq_true rfl), m0_211a hb (by (repeat rw [List.length_set]); exact Nat.le_of_ble_eq_true rfl), m0_219a hb (by (repeat rw [List.length_set]); exact Nat.le_of_ble_eq_true rfl), m0_227a hb (by (repeat rw [List.length_set]); exact Nat.le_of_ble_eq_true rfl), m0_235a hb (by (repeat rw [List.length_set]); exact Nat.le_of_ble_eq_true rfl), m0_243a hb (by (repeat rw [List.length_set]); exact Nat.le_of_ble_eq_true rfl), m0_251a hb (by (repeat rw [List.length_set]); exact Nat.le_of_ble_eq_true rfl), m0_259a hb (by (repeat rw [List.length_set]); exact Nat.le_of_ble_eq_true rfl), m0_267a hb (by (repeat rw [List.length_set]); exact Nat.le_of_ble_eq_true rfl), m0_275a hb (by (repeat rw [List.length_set]); exact Nat.le_of_ble_eq_true rfl), m0_283a hb (by (repeat rw [List.length_set]); exact Nat.le_of_ble_eq_true rfl), m0_292a hb (by (repeat rw [List.length_set]); exact Nat.le_of_ble_eq_true rfl), m0_301a hb (by (repeat rw [List.length_set]); exact Nat.le_of_ble_eq_true rfl), m0_310a hb (by (repeat rw [List.length_set]); exact Nat.le_of_ble_eq_true rfl), m0_319a hb (by (repeat rw [List.length_set]); exact Nat.le_of_ble_eq_true rfl), m0_328a hb (by (repeat rw [List.length_set]); exact Nat.le_of_ble_eq_true rfl), m0_336a hb (by (repeat rw [List.length_set]); exact Nat.le_of_ble_eq_true rfl), m0_344a hb (by (repeat rw [List.length_set]); exact Nat.le_of_ble_eq_true rfl), m0_352a hb (by (repeat rw [List.length_set]); exact Nat.le_of_ble_eq_true rfl), m0_360a hb (by (repeat rw [List.length_set]); exact Nat.le_of_ble_eq_true rfl), m0_368a hb (by (repeat rw [List.length_set]); exact Nat.le_of_ble_eq_true rfl), m0_376a hb (by (repeat rw [List.length_set]); exact Nat.le_of_ble_eq_true rfl), m0_384a hb (by (repeat rw [List.length_set]); exact Nat.le_of_ble_eq_true rfl), m0_393a hb (by (repeat rw [List.length_set]); exact Nat.le_of_ble_eq_true rfl)]
  simp only [put, pad_eq hb, objv, D0, A0, B0, S0, List.map_replicate, List.set_cons_succ, List.set_cons_zero, List.nil_append, List.cons_append, List.length_cons, List.length_nil, List.append_nil]
end Rules
/- methods: 0=MacroAssembler.<init>(I)V; 1=MacroAssembler.feed(I)Z; 2=MacroAssembler.validChar(I)Z; 3=MacroAssembler.sourceLength()I; 4=MacroAssembler.status()I; 5=MacroAssembler.errorLine()I; 6=MacroAssembler.imageLength()I; 7=MacroAssembler.imageByte(I)I; 8=MacroAssembler.resetResult()V; 9=MacroAssemblerL1.law(III)Z -/
theorem own_big {c : Int32} (h : ¬ c < 0) : 0 ≤ c := by
  rw [Int32.le_iff_toInt_le]
  rw [lt_i] at *
  omega
set_option maxRecDepth 1000000 in
set_option maxHeartbeats 20000000 in
theorem own_law (i0 : Int32) (i1 : Int32) (i2 : Int32) : W tables_1 dn 0 x code ret 0 (entry [.int i0, .int i1, .int i2] maxLocals) [] [] (fun v H1 => v = some (.int 1) ∧ H1.length - ([] : AHeap).length ≤ 80 ∧ tot tables_1 H1 - tot tables_1 [] ≤ 18496) := by
  show M9 0 [.val (.int i0), .val (.int i1), .val (.int i2), .unset, .unset, .unset, .unset] [] [] _
  rw [m9_0, m9_3, m9_4, m9_5, own_ctor0 rfl]
  have z22 : S0 22 = 0 := rfl
  have z24 : S0 24 = 0 := rfl
  have z25 : S0 25 = 0 := rfl
  have z26 : S0 26 = 0 := rfl
  by_cases a1 : i0 < 8
  · by_cases c1 : i1 = 10
    · by_cases d1 : i2 < 0
      · simp [a1, c1, d1, z22, z24, z25, z26, m9_0, m9_3, m9_4, m9_5, m9_8u, m9_9, m9_10, m9_12, m9_15, m9_16, m9_18, m9_21, m9_22, m9_24, m9_27, m9_28, m9_31, m9_32u, m9_34, m9_35, m9_36, m9_39u, m9_41, m9_43, m9_45, m9_48, m9_49, m9_50, m9_52, m9_55, m9_56, m9_59, m9_60u, m9_62, m9_63, m9_66, m9_68, m9_71, m9_72, m9_73, m9_74, m9_77, m9_80, m9_81, m9_82, m9_83, m9_86, m9_89, m9_90, m9_91, m9_92, m9_95, m9_98, m9_99, m9_100, m9_101, m9_102, m9_105, m9_106, m9_109, m9_110, m9_113, m9_114, m0_0, m0_1, m0_4, m0_5, m0_6, m0_9, m0_10, m0_11, m0_14, m0_15, m0_16, m0_19, m0_20, m0_21, m0_24, m0_25, m0_26, m0_29, m0_30, m0_31, m0_34, m0_35, m0_36, m0_39, m0_40, m0_41, m0_44, m0_45, m0_46, m0_49, m0_50, m0_51, m0_54, m0_55, m0_56, m0_59, m0_60, m0_62, m0_65, m0_66, m0_68, m0_71, m0_72, m0_74, m0_77, m0_78, m0_80, m0_83, m0_84, m0_86, m0_89, m0_90, m0_92, m0_95, m0_96, m0_98, m0_101, m0_102, m0_104, m0_107, m0_108, m0_110, m0_113, m0_114, m0_116, m0_119, m0_120, m0_128, m0_129, m0_137, m0_138, m0_146, m0_147, m0_154, m0_155, m0_162, m0_163, m0_170, m0_171, m0_179, m0_180, m0_187, m0_188, m0_195, m0_196, m0_203, m0_204, m0_211, m0_212, m0_219, m0_220, m0_227, m0_228, m0_235, m0_236, m0_243, m0_244, m0_251, m0_252, m0_259, m0_260, m0_267, m0_268, m0_275, m0_276, m0_283, m0_284, m0_292, m0_293, m0_301, m0_302, m0_310, m0_311, m0_319, m0_320, m0_328, m0_329, m0_336, m0_337, m0_344, m0_345, m0_352, m0_353, m0_360, m0_361, m0_368, m0_369, m0_376, m0_377, m0_384, m0_385, m0_393, m0_394, m0_402, m0_403u, m0_404, m0_405, m0_407, m0_410, m0_412i, m0_413, m0_414, m0_416, m0_419, m0_421i, m0_422, m0_423, m0_424, m0_427, m1_0, m1_1, m1_2, m1_5, m1_8, m1_9, m1_12, m1_15, m1_18, m1_19, m1_20, m1_21, m1_24, m1_25, m1_28, m1_29, m1_30, m1_31, m1_32, m1_33, m1_36, m1_37, m1_38, m1_41, m1_42, m1_45, m1_46, m2_0, m2_1, m2_3, m2_6, m2_7, m2_9, m2_12, m2_13, m2_15, m2_18, m2_19, m2_22, m2_23, m3_0, m3_1, m3_4, m4_0, m4_1, m4_4, m5_0, m5_1, m5_4, m5_5, m5_8, m5_9, m5_12, m5_15, m5_16, m6_0, m6_1, m6_4, m6_5, m6_8, m6_9, m6_12, m6_15, m6_16, m7_0, m7_1, m7_4, m7_5, m7_6, m7_9, m7_12, m7_13, m7_15, m7_18, m7_19, m7_20, m7_21, m7_24, m7_25, m7_26, m8_0, m8_1, m8_2, m8_5, m8_6, m8_7, m8_10, m8_11, m8_12, m8_15, m8_16, m8_17, m8_20, m8_21, m8_22, m8_25, m8_26, m8_27, m8_30, nb0, nb1, ou_a, Option.toList_some, Option.toList_none, List.nil_append, List.cons_append, getA_set2, setA_len, inB_iff, A0g_0, A0g_1, A0g_2, A0g_3, A0g_4, A0g_5, A0g_6, A0g_7, A0g_8, A0g_9, A0g_10, A0g_11, A0g_12, A0g_13, A0g_14, A0g_15, A0g_16, A0g_17, A0g_18, A0g_19, A0g_20, A0g_21, A0g_22, A0g_23, A0g_24, A0g_25, A0g_26, A0g_27, A0g_28, A0l_0, A0l_1, A0l_2, A0l_3, A0l_4, A0l_5, A0l_6, A0l_7, A0l_8, A0l_9, A0l_10, A0l_11, A0l_12, A0l_13, A0l_14, A0l_15, A0l_16, A0l_17, A0l_18, A0l_19, A0l_20, A0l_21, A0l_22, A0l_23, A0l_24, A0l_25, A0l_26, A0l_27, A0l_28, B0l_0, B0l_1, B0l_2, B0l_3, B0l_4]
        refine ⟨?_, ?_⟩ <;> simp only [ou_a, setA_len, put_len, put_tot, pad_0, tot_nil, List.length_nil, List.length_cons, A0l_0, A0l_1, A0l_2, A0l_3, A0l_4, A0l_5, A0l_6, A0l_7, A0l_8, A0l_9, A0l_10, A0l_11, A0l_12, A0l_13, A0l_14, A0l_15, A0l_16, A0l_17, A0l_18, A0l_19, A0l_20, A0l_21, A0l_22, A0l_23, A0l_24, A0l_25, A0l_26, A0l_27, A0l_28, B0l_0, B0l_1, B0l_2, B0l_3, B0l_4] <;> simp [setA_len, put_len, put_tot, pad_0, tot_nil, List.length_nil, List.length_cons, A0l_0, A0l_1, A0l_2, A0l_3, A0l_4, A0l_5, A0l_6, A0l_7, A0l_8, A0l_9, A0l_10, A0l_11, A0l_12, A0l_13, A0l_14, A0l_15, A0l_16, A0l_17, A0l_18, A0l_19, A0l_20, A0l_21, A0l_22, A0l_23, A0l_24, A0l_25, A0l_26, A0l_27, A0l_28, B0l_0, B0l_1, B0l_2, B0l_3, B0l_4]
      · simp [a1, c1, d1, z22, z24, z25, z26, m9_0, m9_3, m9_4, m9_5, m9_8u, m9_9, m9_10, m9_12, m9_15, m9_16, m9_18, m9_21, m9_22, m9_24, m9_27, m9_28, m9_31, m9_32u, m9_34, m9_35, m9_36, m9_39u, m9_41, m9_43, m9_45, m9_48, m9_49, m9_50, m9_52, m9_55, m9_56, m9_59, m9_60u, m9_62, m9_63, m9_66, m9_68, m9_71, m9_72, m9_73, m9_74, m9_77, m9_80, m9_81, m9_82, m9_83, m9_86, m9_89, m9_90, m9_91, m9_92, m9_95, m9_98, m9_99, m9_100, m9_101, m9_102, m9_105, m9_106, m9_109, m9_110, m9_113, m9_114, m0_0, m0_1, m0_4, m0_5, m0_6, m0_9, m0_10, m0_11, m0_14, m0_15, m0_16, m0_19, m0_20, m0_21, m0_24, m0_25, m0_26, m0_29, m0_30, m0_31, m0_34, m0_35, m0_36, m0_39, m0_40, m0_41, m0_44, m0_45, m0_46, m0_49, m0_50, m0_51, m0_54, m0_55, m0_56, m0_59, m0_60, m0_62, m0_65, m0_66, m0_68, m0_71, m0_72, m0_74, m0_77, m0_78, m0_80, m0_83, m0_84, m0_86, m0_89, m0_90, m0_92, m0_95, m0_96, m0_98, m0_101, m0_102, m0_104, m0_107, m0_108, m0_110, m0_113, m0_114, m0_116, m0_119, m0_120, m0_128, m0_129, m0_137, m0_138, m0_146, m0_147, m0_154, m0_155, m0_162, m0_163, m0_170, m0_171, m0_179, m0_180, m0_187, m0_188, m0_195, m0_196, m0_203, m0_204, m0_211, m0_212, m0_219, m0_220, m0_227, m0_228, m0_235, m0_236, m0_243, m0_244, m0_251, m0_252, m0_259, m0_260, m0_267, m0_268, m0_275, m0_276, m0_283, m0_284, m0_292, m0_293, m0_301, m0_302, m0_310, m0_311, m0_319, m0_320, m0_328, m0_329, m0_336, m0_337, m0_344, m0_345, m0_352, m0_353, m0_360, m0_361, m0_368, m0_369, m0_376, m0_377, m0_384, m0_385, m0_393, m0_394, m0_402, m0_403u, m0_404, m0_405, m0_407, m0_410, m0_412i, m0_413, m0_414, m0_416, m0_419, m0_421i, m0_422, m0_423, m0_424, m0_427, m1_0, m1_1, m1_2, m1_5, m1_8, m1_9, m1_12, m1_15, m1_18, m1_19, m1_20, m1_21, m1_24, m1_25, m1_28, m1_29, m1_30, m1_31, m1_32, m1_33, m1_36, m1_37, m1_38, m1_41, m1_42, m1_45, m1_46, m2_0, m2_1, m2_3, m2_6, m2_7, m2_9, m2_12, m2_13, m2_15, m2_18, m2_19, m2_22, m2_23, m3_0, m3_1, m3_4, m4_0, m4_1, m4_4, m5_0, m5_1, m5_4, m5_5, m5_8, m5_9, m5_12, m5_15, m5_16, m6_0, m6_1, m6_4, m6_5, m6_8, m6_9, m6_12, m6_15, m6_16, m7_0, m7_1, m7_4, m7_5, m7_6, m7_9, m7_12, m7_13, m7_15, m7_18, m7_19, m7_20, m7_21, m7_24, m7_25, m7_26, m8_0, m8_1, m8_2, m8_5, m8_6, m8_7, m8_10, m8_11, m8_12, m8_15, m8_16, m8_17, m8_20, m8_21, m8_22, m8_25, m8_26, m8_27, m8_30, nb0, nb1, ou_a, Option.toList_some, Option.toList_none, List.nil_append, List.cons_append, getA_set2, setA_len, inB_iff, A0g_0, A0g_1, A0g_2, A0g_3, A0g_4, A0g_5, A0g_6, A0g_7, A0g_8, A0g_9, A0g_10, A0g_11, A0g_12, A0g_13, A0g_14, A0g_15, A0g_16, A0g_17, A0g_18, A0g_19, A0g_20, A0g_21, A0g_22, A0g_23, A0g_24, A0g_25, A0g_26, A0g_27, A0g_28, A0l_0, A0l_1, A0l_2, A0l_3, A0l_4, A0l_5, A0l_6, A0l_7, A0l_8, A0l_9, A0l_10, A0l_11, A0l_12, A0l_13, A0l_14, A0l_15, A0l_16, A0l_17, A0l_18, A0l_19, A0l_20, A0l_21, A0l_22, A0l_23, A0l_24, A0l_25, A0l_26, A0l_27, A0l_28, B0l_0, B0l_1, B0l_2, B0l_3, B0l_4]
        refine ⟨?_, ?_⟩ <;> simp only [ou_a, setA_len, put_len, put_tot, pad_0, tot_nil, List.length_nil, List.length_cons, A0l_0, A0l_1, A0l_2, A0l_3, A0l_4, A0l_5, A0l_6, A0l_7, A0l_8, A0l_9, A0l_10, A0l_11, A0l_12, A0l_13, A0l_14, A0l_15, A0l_16, A0l_17, A0l_18, A0l_19, A0l_20, A0l_21, A0l_22, A0l_23, A0l_24, A0l_25, A0l_26, A0l_27, A0l_28, B0l_0, B0l_1, B0l_2, B0l_3, B0l_4] <;> simp [setA_len, put_len, put_tot, pad_0, tot_nil, List.length_nil, List.length_cons, A0l_0, A0l_1, A0l_2, A0l_3, A0l_4, A0l_5, A0l_6, A0l_7, A0l_8, A0l_9, A0l_10, A0l_11, A0l_12, A0l_13, A0l_14, A0l_15, A0l_16, A0l_17, A0l_18, A0l_19, A0l_20, A0l_21, A0l_22, A0l_23, A0l_24, A0l_25, A0l_26, A0l_27, A0l_28, B0l_0, B0l_1, B0l_2, B0l_3, B0l_4]
    by_cases c2 : i1 < 32
    · by_cases d1 : i2 < 0
      · simp [a1, c1, c2, d1, z22, z24, z25, z26, m9_0, m9_3, m9_4, m9_5, m9_8u, m9_9, m9_10, m9_12, m9_15, m9_16, m9_18, m9_21, m9_22, m9_24, m9_27, m9_28, m9_31, m9_32u, m9_34, m9_35, m9_36, m9_39u, m9_41, m9_43, m9_45, m9_48, m9_49, m9_50, m9_52, m9_55, m9_56, m9_59, m9_60u, m9_62, m9_63, m9_66, m9_68, m9_71, m9_72, m9_73, m9_74, m9_77, m9_80, m9_81, m9_82, m9_83, m9_86, m9_89, m9_90, m9_91, m9_92, m9_95, m9_98, m9_99, m9_100, m9_101, m9_102, m9_105, m9_106, m9_109, m9_110, m9_113, m9_114, m0_0, m0_1, m0_4, m0_5, m0_6, m0_9, m0_10, m0_11, m0_14, m0_15, m0_16, m0_19, m0_20, m0_21, m0_24, m0_25, m0_26, m0_29, m0_30, m0_31, m0_34, m0_35, m0_36, m0_39, m0_40, m0_41, m0_44, m0_45, m0_46, m0_49, m0_50, m0_51, m0_54, m0_55, m0_56, m0_59, m0_60, m0_62, m0_65, m0_66, m0_68, m0_71, m0_72, m0_74, m0_77, m0_78, m0_80, m0_83, m0_84, m0_86, m0_89, m0_90, m0_92, m0_95, m0_96, m0_98, m0_101, m0_102, m0_104, m0_107, m0_108, m0_110, m0_113, m0_114, m0_116, m0_119, m0_120, m0_128, m0_129, m0_137, m0_138, m0_146, m0_147, m0_154, m0_155, m0_162, m0_163, m0_170, m0_171, m0_179, m0_180, m0_187, m0_188, m0_195, m0_196, m0_203, m0_204, m0_211, m0_212, m0_219, m0_220, m0_227, m0_228, m0_235, m0_236, m0_243, m0_244, m0_251, m0_252, m0_259, m0_260, m0_267, m0_268, m0_275, m0_276, m0_283, m0_284, m0_292, m0_293, m0_301, m0_302, m0_310, m0_311, m0_319, m0_320, m0_328, m0_329, m0_336, m0_337, m0_344, m0_345, m0_352, m0_353, m0_360, m0_361, m0_368, m0_369, m0_376, m0_377, m0_384, m0_385, m0_393, m0_394, m0_402, m0_403u, m0_404, m0_405, m0_407, m0_410, m0_412i, m0_413, m0_414, m0_416, m0_419, m0_421i, m0_422, m0_423, m0_424, m0_427, m1_0, m1_1, m1_2, m1_5, m1_8, m1_9, m1_12, m1_15, m1_18, m1_19, m1_20, m1_21, m1_24, m1_25, m1_28, m1_29, m1_30, m1_31, m1_32, m1_33, m1_36, m1_37, m1_38, m1_41, m1_42, m1_45, m1_46, m2_0, m2_1, m2_3, m2_6, m2_7, m2_9, m2_12, m2_13, m2_15, m2_18, m2_19, m2_22, m2_23, m3_0, m3_1, m3_4, m4_0, m4_1, m4_4, m5_0, m5_1, m5_4, m5_5, m5_8, m5_9, m5_12, m5_15, m5_16, m6_0, m6_1, m6_4, m6_5, m6_8, m6_9, m6_12, m6_15, m6_16, m7_0, m7_1, m7_4, m7_5, m7_6, m7_9, m7_12, m7_13, m7_15, m7_18, m7_19, m7_20, m7_21, m7_24, m7_25, m7_26, m8_0, m8_1, m8_2, m8_5, m8_6, m8_7, m8_10, m8_11, m8_12, m8_15, m8_16, m8_17, m8_20, m8_21, m8_22, m8_25, m8_26, m8_27, m8_30, nb0, nb1, ou_a, Option.toList_some, Option.toList_none, List.nil_append, List.cons_append, getA_set2, setA_len, inB_iff, A0g_0, A0g_1, A0g_2, A0g_3, A0g_4, A0g_5, A0g_6, A0g_7, A0g_8, A0g_9, A0g_10, A0g_11, A0g_12, A0g_13, A0g_14, A0g_15, A0g_16, A0g_17, A0g_18, A0g_19, A0g_20, A0g_21, A0g_22, A0g_23, A0g_24, A0g_25, A0g_26, A0g_27, A0g_28, A0l_0, A0l_1, A0l_2, A0l_3, A0l_4, A0l_5, A0l_6, A0l_7, A0l_8, A0l_9, A0l_10, A0l_11, A0l_12, A0l_13, A0l_14, A0l_15, A0l_16, A0l_17, A0l_18, A0l_19, A0l_20, A0l_21, A0l_22, A0l_23, A0l_24, A0l_25, A0l_26, A0l_27, A0l_28, B0l_0, B0l_1, B0l_2, B0l_3, B0l_4]
        refine ⟨?_, ?_⟩ <;> simp only [ou_a, setA_len, put_len, put_tot, pad_0, tot_nil, List.length_nil, List.length_cons, A0l_0, A0l_1, A0l_2, A0l_3, A0l_4, A0l_5, A0l_6, A0l_7, A0l_8, A0l_9, A0l_10, A0l_11, A0l_12, A0l_13, A0l_14, A0l_15, A0l_16, A0l_17, A0l_18, A0l_19, A0l_20, A0l_21, A0l_22, A0l_23, A0l_24, A0l_25, A0l_26, A0l_27, A0l_28, B0l_0, B0l_1, B0l_2, B0l_3, B0l_4] <;> simp [setA_len, put_len, put_tot, pad_0, tot_nil, List.length_nil, List.length_cons, A0l_0, A0l_1, A0l_2, A0l_3, A0l_4, A0l_5, A0l_6, A0l_7, A0l_8, A0l_9, A0l_10, A0l_11, A0l_12, A0l_13, A0l_14, A0l_15, A0l_16, A0l_17, A0l_18, A0l_19, A0l_20, A0l_21, A0l_22, A0l_23, A0l_24, A0l_25, A0l_26, A0l_27, A0l_28, B0l_0, B0l_1, B0l_2, B0l_3, B0l_4]
      · simp [a1, c1, c2, d1, z22, z24, z25, z26, m9_0, m9_3, m9_4, m9_5, m9_8u, m9_9, m9_10, m9_12, m9_15, m9_16, m9_18, m9_21, m9_22, m9_24, m9_27, m9_28, m9_31, m9_32u, m9_34, m9_35, m9_36, m9_39u, m9_41, m9_43, m9_45, m9_48, m9_49, m9_50, m9_52, m9_55, m9_56, m9_59, m9_60u, m9_62, m9_63, m9_66, m9_68, m9_71, m9_72, m9_73, m9_74, m9_77, m9_80, m9_81, m9_82, m9_83, m9_86, m9_89, m9_90, m9_91, m9_92, m9_95, m9_98, m9_99, m9_100, m9_101, m9_102, m9_105, m9_106, m9_109, m9_110, m9_113, m9_114, m0_0, m0_1, m0_4, m0_5, m0_6, m0_9, m0_10, m0_11, m0_14, m0_15, m0_16, m0_19, m0_20, m0_21, m0_24, m0_25, m0_26, m0_29, m0_30, m0_31, m0_34, m0_35, m0_36, m0_39, m0_40, m0_41, m0_44, m0_45, m0_46, m0_49, m0_50, m0_51, m0_54, m0_55, m0_56, m0_59, m0_60, m0_62, m0_65, m0_66, m0_68, m0_71, m0_72, m0_74, m0_77, m0_78, m0_80, m0_83, m0_84, m0_86, m0_89, m0_90, m0_92, m0_95, m0_96, m0_98, m0_101, m0_102, m0_104, m0_107, m0_108, m0_110, m0_113, m0_114, m0_116, m0_119, m0_120, m0_128, m0_129, m0_137, m0_138, m0_146, m0_147, m0_154, m0_155, m0_162, m0_163, m0_170, m0_171, m0_179, m0_180, m0_187, m0_188, m0_195, m0_196, m0_203, m0_204, m0_211, m0_212, m0_219, m0_220, m0_227, m0_228, m0_235, m0_236, m0_243, m0_244, m0_251, m0_252, m0_259, m0_260, m0_267, m0_268, m0_275, m0_276, m0_283, m0_284, m0_292, m0_293, m0_301, m0_302, m0_310, m0_311, m0_319, m0_320, m0_328, m0_329, m0_336, m0_337, m0_344, m0_345, m0_352, m0_353, m0_360, m0_361, m0_368, m0_369, m0_376, m0_377, m0_384, m0_385, m0_393, m0_394, m0_402, m0_403u, m0_404, m0_405, m0_407, m0_410, m0_412i, m0_413, m0_414, m0_416, m0_419, m0_421i, m0_422, m0_423, m0_424, m0_427, m1_0, m1_1, m1_2, m1_5, m1_8, m1_9, m1_12, m1_15, m1_18, m1_19, m1_20, m1_21, m1_24, m1_25, m1_28, m1_29, m1_30, m1_31, m1_32, m1_33, m1_36, m1_37, m1_38, m1_41, m1_42, m1_45, m1_46, m2_0, m2_1, m2_3, m2_6, m2_7, m2_9, m2_12, m2_13, m2_15, m2_18, m2_19, m2_22, m2_23, m3_0, m3_1, m3_4, m4_0, m4_1, m4_4, m5_0, m5_1, m5_4, m5_5, m5_8, m5_9, m5_12, m5_15, m5_16, m6_0, m6_1, m6_4, m6_5, m6_8, m6_9, m6_12, m6_15, m6_16, m7_0, m7_1, m7_4, m7_5, m7_6, m7_9, m7_12, m7_13, m7_15, m7_18, m7_19, m7_20, m7_21, m7_24, m7_25, m7_26, m8_0, m8_1, m8_2, m8_5, m8_6, m8_7, m8_10, m8_11, m8_12, m8_15, m8_16, m8_17, m8_20, m8_21, m8_22, m8_25, m8_26, m8_27, m8_30, nb0, nb1, ou_a, Option.toList_some, Option.toList_none, List.nil_append, List.cons_append, getA_set2, setA_len, inB_iff, A0g_0, A0g_1, A0g_2, A0g_3, A0g_4, A0g_5, A0g_6, A0g_7, A0g_8, A0g_9, A0g_10, A0g_11, A0g_12, A0g_13, A0g_14, A0g_15, A0g_16, A0g_17, A0g_18, A0g_19, A0g_20, A0g_21, A0g_22, A0g_23, A0g_24, A0g_25, A0g_26, A0g_27, A0g_28, A0l_0, A0l_1, A0l_2, A0l_3, A0l_4, A0l_5, A0l_6, A0l_7, A0l_8, A0l_9, A0l_10, A0l_11, A0l_12, A0l_13, A0l_14, A0l_15, A0l_16, A0l_17, A0l_18, A0l_19, A0l_20, A0l_21, A0l_22, A0l_23, A0l_24, A0l_25, A0l_26, A0l_27, A0l_28, B0l_0, B0l_1, B0l_2, B0l_3, B0l_4]
        refine ⟨?_, ?_⟩ <;> simp only [ou_a, setA_len, put_len, put_tot, pad_0, tot_nil, List.length_nil, List.length_cons, A0l_0, A0l_1, A0l_2, A0l_3, A0l_4, A0l_5, A0l_6, A0l_7, A0l_8, A0l_9, A0l_10, A0l_11, A0l_12, A0l_13, A0l_14, A0l_15, A0l_16, A0l_17, A0l_18, A0l_19, A0l_20, A0l_21, A0l_22, A0l_23, A0l_24, A0l_25, A0l_26, A0l_27, A0l_28, B0l_0, B0l_1, B0l_2, B0l_3, B0l_4] <;> simp [setA_len, put_len, put_tot, pad_0, tot_nil, List.length_nil, List.length_cons, A0l_0, A0l_1, A0l_2, A0l_3, A0l_4, A0l_5, A0l_6, A0l_7, A0l_8, A0l_9, A0l_10, A0l_11, A0l_12, A0l_13, A0l_14, A0l_15, A0l_16, A0l_17, A0l_18, A0l_19, A0l_20, A0l_21, A0l_22, A0l_23, A0l_24, A0l_25, A0l_26, A0l_27, A0l_28, B0l_0, B0l_1, B0l_2, B0l_3, B0l_4]
    by_cases c3 : 126 < i1
    · by_cases d1 : i2 < 0
      · simp [a1, c1, c2, c3, d1, z22, z24, z25, z26, m9_0, m9_3, m9_4, m9_5, m9_8u, m9_9, m9_10, m9_12, m9_15, m9_16, m9_18, m9_21, m9_22, m9_24, m9_27, m9_28, m9_31, m9_32u, m9_34, m9_35, m9_36, m9_39u, m9_41, m9_43, m9_45, m9_48, m9_49, m9_50, m9_52, m9_55, m9_56, m9_59, m9_60u, m9_62, m9_63, m9_66, m9_68, m9_71, m9_72, m9_73, m9_74, m9_77, m9_80, m9_81, m9_82, m9_83, m9_86, m9_89, m9_90, m9_91, m9_92, m9_95, m9_98, m9_99, m9_100, m9_101, m9_102, m9_105, m9_106, m9_109, m9_110, m9_113, m9_114, m0_0, m0_1, m0_4, m0_5, m0_6, m0_9, m0_10, m0_11, m0_14, m0_15, m0_16, m0_19, m0_20, m0_21, m0_24, m0_25, m0_26, m0_29, m0_30, m0_31, m0_34, m0_35, m0_36, m0_39, m0_40, m0_41, m0_44, m0_45, m0_46, m0_49, m0_50, m0_51, m0_54, m0_55, m0_56, m0_59, m0_60, m0_62, m0_65, m0_66, m0_68, m0_71, m0_72, m0_74, m0_77, m0_78, m0_80, m0_83, m0_84, m0_86, m0_89, m0_90, m0_92, m0_95, m0_96, m0_98, m0_101, m0_102, m0_104, m0_107, m0_108, m0_110, m0_113, m0_114, m0_116, m0_119, m0_120, m0_128, m0_129, m0_137, m0_138, m0_146, m0_147, m0_154, m0_155, m0_162, m0_163, m0_170, m0_171, m0_179, m0_180, m0_187, m0_188, m0_195, m0_196, m0_203, m0_204, m0_211, m0_212, m0_219, m0_220, m0_227, m0_228, m0_235, m0_236, m0_243, m0_244, m0_251, m0_252, m0_259, m0_260, m0_267, m0_268, m0_275, m0_276, m0_283, m0_284, m0_292, m0_293, m0_301, m0_302, m0_310, m0_311, m0_319, m0_320, m0_328, m0_329, m0_336, m0_337, m0_344, m0_345, m0_352, m0_353, m0_360, m0_361, m0_368, m0_369, m0_376, m0_377, m0_384, m0_385, m0_393, m0_394, m0_402, m0_403u, m0_404, m0_405, m0_407, m0_410, m0_412i, m0_413, m0_414, m0_416, m0_419, m0_421i, m0_422, m0_423, m0_424, m0_427, m1_0, m1_1, m1_2, m1_5, m1_8, m1_9, m1_12, m1_15, m1_18, m1_19, m1_20, m1_21, m1_24, m1_25, m1_28, m1_29, m1_30, m1_31, m1_32, m1_33, m1_36, m1_37, m1_38, m1_41, m1_42, m1_45, m1_46, m2_0, m2_1, m2_3, m2_6, m2_7, m2_9, m2_12, m2_13, m2_15, m2_18, m2_19, m2_22, m2_23, m3_0, m3_1, m3_4, m4_0, m4_1, m4_4, m5_0, m5_1, m5_4, m5_5, m5_8, m5_9, m5_12, m5_15, m5_16, m6_0, m6_1, m6_4, m6_5, m6_8, m6_9, m6_12, m6_15, m6_16, m7_0, m7_1, m7_4, m7_5, m7_6, m7_9, m7_12, m7_13, m7_15, m7_18, m7_19, m7_20, m7_21, m7_24, m7_25, m7_26, m8_0, m8_1, m8_2, m8_5, m8_6, m8_7, m8_10, m8_11, m8_12, m8_15, m8_16, m8_17, m8_20, m8_21, m8_22, m8_25, m8_26, m8_27, m8_30, nb0, nb1, ou_a, Option.toList_some, Option.toList_none, List.nil_append, List.cons_append, getA_set2, setA_len, inB_iff, A0g_0, A0g_1, A0g_2, A0g_3, A0g_4, A0g_5, A0g_6, A0g_7, A0g_8, A0g_9, A0g_10, A0g_11, A0g_12, A0g_13, A0g_14, A0g_15, A0g_16, A0g_17, A0g_18, A0g_19, A0g_20, A0g_21, A0g_22, A0g_23, A0g_24, A0g_25, A0g_26, A0g_27, A0g_28, A0l_0, A0l_1, A0l_2, A0l_3, A0l_4, A0l_5, A0l_6, A0l_7, A0l_8, A0l_9, A0l_10, A0l_11, A0l_12, A0l_13, A0l_14, A0l_15, A0l_16, A0l_17, A0l_18, A0l_19, A0l_20, A0l_21, A0l_22, A0l_23, A0l_24, A0l_25, A0l_26, A0l_27, A0l_28, B0l_0, B0l_1, B0l_2, B0l_3, B0l_4]
        refine ⟨?_, ?_⟩ <;> simp only [ou_a, setA_len, put_len, put_tot, pad_0, tot_nil, List.length_nil, List.length_cons, A0l_0, A0l_1, A0l_2, A0l_3, A0l_4, A0l_5, A0l_6, A0l_7, A0l_8, A0l_9, A0l_10, A0l_11, A0l_12, A0l_13, A0l_14, A0l_15, A0l_16, A0l_17, A0l_18, A0l_19, A0l_20, A0l_21, A0l_22, A0l_23, A0l_24, A0l_25, A0l_26, A0l_27, A0l_28, B0l_0, B0l_1, B0l_2, B0l_3, B0l_4] <;> simp [setA_len, put_len, put_tot, pad_0, tot_nil, List.length_nil, List.length_cons, A0l_0, A0l_1, A0l_2, A0l_3, A0l_4, A0l_5, A0l_6, A0l_7, A0l_8, A0l_9, A0l_10, A0l_11, A0l_12, A0l_13, A0l_14, A0l_15, A0l_16, A0l_17, A0l_18, A0l_19, A0l_20, A0l_21, A0l_22, A0l_23, A0l_24, A0l_25, A0l_26, A0l_27, A0l_28, B0l_0, B0l_1, B0l_2, B0l_3, B0l_4]
      · simp [a1, c1, c2, c3, d1, z22, z24, z25, z26, m9_0, m9_3, m9_4, m9_5, m9_8u, m9_9, m9_10, m9_12, m9_15, m9_16, m9_18, m9_21, m9_22, m9_24, m9_27, m9_28, m9_31, m9_32u, m9_34, m9_35, m9_36, m9_39u, m9_41, m9_43, m9_45, m9_48, m9_49, m9_50, m9_52, m9_55, m9_56, m9_59, m9_60u, m9_62, m9_63, m9_66, m9_68, m9_71, m9_72, m9_73, m9_74, m9_77, m9_80, m9_81, m9_82, m9_83, m9_86, m9_89, m9_90, m9_91, m9_92, m9_95, m9_98, m9_99, m9_100, m9_101, m9_102, m9_105, m9_106, m9_109, m9_110, m9_113, m9_114, m0_0, m0_1, m0_4, m0_5, m0_6, m0_9, m0_10, m0_11, m0_14, m0_15, m0_16, m0_19, m0_20, m0_21, m0_24, m0_25, m0_26, m0_29, m0_30, m0_31, m0_34, m0_35, m0_36, m0_39, m0_40, m0_41, m0_44, m0_45, m0_46, m0_49, m0_50, m0_51, m0_54, m0_55, m0_56, m0_59, m0_60, m0_62, m0_65, m0_66, m0_68, m0_71, m0_72, m0_74, m0_77, m0_78, m0_80, m0_83, m0_84, m0_86, m0_89, m0_90, m0_92, m0_95, m0_96, m0_98, m0_101, m0_102, m0_104, m0_107, m0_108, m0_110, m0_113, m0_114, m0_116, m0_119, m0_120, m0_128, m0_129, m0_137, m0_138, m0_146, m0_147, m0_154, m0_155, m0_162, m0_163, m0_170, m0_171, m0_179, m0_180, m0_187, m0_188, m0_195, m0_196, m0_203, m0_204, m0_211, m0_212, m0_219, m0_220, m0_227, m0_228, m0_235, m0_236, m0_243, m0_244, m0_251, m0_252, m0_259, m0_260, m0_267, m0_268, m0_275, m0_276, m0_283, m0_284, m0_292, m0_293, m0_301, m0_302, m0_310, m0_311, m0_319, m0_320, m0_328, m0_329, m0_336, m0_337, m0_344, m0_345, m0_352, m0_353, m0_360, m0_361, m0_368, m0_369, m0_376, m0_377, m0_384, m0_385, m0_393, m0_394, m0_402, m0_403u, m0_404, m0_405, m0_407, m0_410, m0_412i, m0_413, m0_414, m0_416, m0_419, m0_421i, m0_422, m0_423, m0_424, m0_427, m1_0, m1_1, m1_2, m1_5, m1_8, m1_9, m1_12, m1_15, m1_18, m1_19, m1_20, m1_21, m1_24, m1_25, m1_28, m1_29, m1_30, m1_31, m1_32, m1_33, m1_36, m1_37, m1_38, m1_41, m1_42, m1_45, m1_46, m2_0, m2_1, m2_3, m2_6, m2_7, m2_9, m2_12, m2_13, m2_15, m2_18, m2_19, m2_22, m2_23, m3_0, m3_1, m3_4, m4_0, m4_1, m4_4, m5_0, m5_1, m5_4, m5_5, m5_8, m5_9, m5_12, m5_15, m5_16, m6_0, m6_1, m6_4, m6_5, m6_8, m6_9, m6_12, m6_15, m6_16, m7_0, m7_1, m7_4, m7_5, m7_6, m7_9, m7_12, m7_13, m7_15, m7_18, m7_19, m7_20, m7_21, m7_24, m7_25, m7_26, m8_0, m8_1, m8_2, m8_5, m8_6, m8_7, m8_10, m8_11, m8_12, m8_15, m8_16, m8_17, m8_20, m8_21, m8_22, m8_25, m8_26, m8_27, m8_30, nb0, nb1, ou_a, Option.toList_some, Option.toList_none, List.nil_append, List.cons_append, getA_set2, setA_len, inB_iff, A0g_0, A0g_1, A0g_2, A0g_3, A0g_4, A0g_5, A0g_6, A0g_7, A0g_8, A0g_9, A0g_10, A0g_11, A0g_12, A0g_13, A0g_14, A0g_15, A0g_16, A0g_17, A0g_18, A0g_19, A0g_20, A0g_21, A0g_22, A0g_23, A0g_24, A0g_25, A0g_26, A0g_27, A0g_28, A0l_0, A0l_1, A0l_2, A0l_3, A0l_4, A0l_5, A0l_6, A0l_7, A0l_8, A0l_9, A0l_10, A0l_11, A0l_12, A0l_13, A0l_14, A0l_15, A0l_16, A0l_17, A0l_18, A0l_19, A0l_20, A0l_21, A0l_22, A0l_23, A0l_24, A0l_25, A0l_26, A0l_27, A0l_28, B0l_0, B0l_1, B0l_2, B0l_3, B0l_4]
        refine ⟨?_, ?_⟩ <;> simp only [ou_a, setA_len, put_len, put_tot, pad_0, tot_nil, List.length_nil, List.length_cons, A0l_0, A0l_1, A0l_2, A0l_3, A0l_4, A0l_5, A0l_6, A0l_7, A0l_8, A0l_9, A0l_10, A0l_11, A0l_12, A0l_13, A0l_14, A0l_15, A0l_16, A0l_17, A0l_18, A0l_19, A0l_20, A0l_21, A0l_22, A0l_23, A0l_24, A0l_25, A0l_26, A0l_27, A0l_28, B0l_0, B0l_1, B0l_2, B0l_3, B0l_4] <;> simp [setA_len, put_len, put_tot, pad_0, tot_nil, List.length_nil, List.length_cons, A0l_0, A0l_1, A0l_2, A0l_3, A0l_4, A0l_5, A0l_6, A0l_7, A0l_8, A0l_9, A0l_10, A0l_11, A0l_12, A0l_13, A0l_14, A0l_15, A0l_16, A0l_17, A0l_18, A0l_19, A0l_20, A0l_21, A0l_22, A0l_23, A0l_24, A0l_25, A0l_26, A0l_27, A0l_28, B0l_0, B0l_1, B0l_2, B0l_3, B0l_4]
    · by_cases d1 : i2 < 0
      · simp [a1, c1, c2, c3, d1, z22, z24, z25, z26, m9_0, m9_3, m9_4, m9_5, m9_8u, m9_9, m9_10, m9_12, m9_15, m9_16, m9_18, m9_21, m9_22, m9_24, m9_27, m9_28, m9_31, m9_32u, m9_34, m9_35, m9_36, m9_39u, m9_41, m9_43, m9_45, m9_48, m9_49, m9_50, m9_52, m9_55, m9_56, m9_59, m9_60u, m9_62, m9_63, m9_66, m9_68, m9_71, m9_72, m9_73, m9_74, m9_77, m9_80, m9_81, m9_82, m9_83, m9_86, m9_89, m9_90, m9_91, m9_92, m9_95, m9_98, m9_99, m9_100, m9_101, m9_102, m9_105, m9_106, m9_109, m9_110, m9_113, m9_114, m0_0, m0_1, m0_4, m0_5, m0_6, m0_9, m0_10, m0_11, m0_14, m0_15, m0_16, m0_19, m0_20, m0_21, m0_24, m0_25, m0_26, m0_29, m0_30, m0_31, m0_34, m0_35, m0_36, m0_39, m0_40, m0_41, m0_44, m0_45, m0_46, m0_49, m0_50, m0_51, m0_54, m0_55, m0_56, m0_59, m0_60, m0_62, m0_65, m0_66, m0_68, m0_71, m0_72, m0_74, m0_77, m0_78, m0_80, m0_83, m0_84, m0_86, m0_89, m0_90, m0_92, m0_95, m0_96, m0_98, m0_101, m0_102, m0_104, m0_107, m0_108, m0_110, m0_113, m0_114, m0_116, m0_119, m0_120, m0_128, m0_129, m0_137, m0_138, m0_146, m0_147, m0_154, m0_155, m0_162, m0_163, m0_170, m0_171, m0_179, m0_180, m0_187, m0_188, m0_195, m0_196, m0_203, m0_204, m0_211, m0_212, m0_219, m0_220, m0_227, m0_228, m0_235, m0_236, m0_243, m0_244, m0_251, m0_252, m0_259, m0_260, m0_267, m0_268, m0_275, m0_276, m0_283, m0_284, m0_292, m0_293, m0_301, m0_302, m0_310, m0_311, m0_319, m0_320, m0_328, m0_329, m0_336, m0_337, m0_344, m0_345, m0_352, m0_353, m0_360, m0_361, m0_368, m0_369, m0_376, m0_377, m0_384, m0_385, m0_393, m0_394, m0_402, m0_403u, m0_404, m0_405, m0_407, m0_410, m0_412i, m0_413, m0_414, m0_416, m0_419, m0_421i, m0_422, m0_423, m0_424, m0_427, m1_0, m1_1, m1_2, m1_5, m1_8, m1_9, m1_12, m1_15, m1_18, m1_19, m1_20, m1_21, m1_24, m1_25, m1_28, m1_29, m1_30, m1_31, m1_32, m1_33, m1_36, m1_37, m1_38, m1_41, m1_42, m1_45, m1_46, m2_0, m2_1, m2_3, m2_6, m2_7, m2_9, m2_12, m2_13, m2_15, m2_18, m2_19, m2_22, m2_23, m3_0, m3_1, m3_4, m4_0, m4_1, m4_4, m5_0, m5_1, m5_4, m5_5, m5_8, m5_9, m5_12, m5_15, m5_16, m6_0, m6_1, m6_4, m6_5, m6_8, m6_9, m6_12, m6_15, m6_16, m7_0, m7_1, m7_4, m7_5, m7_6, m7_9, m7_12, m7_13, m7_15, m7_18, m7_19, m7_20, m7_21, m7_24, m7_25, m7_26, m8_0, m8_1, m8_2, m8_5, m8_6, m8_7, m8_10, m8_11, m8_12, m8_15, m8_16, m8_17, m8_20, m8_21, m8_22, m8_25, m8_26, m8_27, m8_30, nb0, nb1, ou_a, Option.toList_some, Option.toList_none, List.nil_append, List.cons_append, getA_set2, setA_len, inB_iff, A0g_0, A0g_1, A0g_2, A0g_3, A0g_4, A0g_5, A0g_6, A0g_7, A0g_8, A0g_9, A0g_10, A0g_11, A0g_12, A0g_13, A0g_14, A0g_15, A0g_16, A0g_17, A0g_18, A0g_19, A0g_20, A0g_21, A0g_22, A0g_23, A0g_24, A0g_25, A0g_26, A0g_27, A0g_28, A0l_0, A0l_1, A0l_2, A0l_3, A0l_4, A0l_5, A0l_6, A0l_7, A0l_8, A0l_9, A0l_10, A0l_11, A0l_12, A0l_13, A0l_14, A0l_15, A0l_16, A0l_17, A0l_18, A0l_19, A0l_20, A0l_21, A0l_22, A0l_23, A0l_24, A0l_25, A0l_26, A0l_27, A0l_28, B0l_0, B0l_1, B0l_2, B0l_3, B0l_4]
        refine ⟨?_, ?_⟩ <;> simp only [ou_a, setA_len, put_len, put_tot, pad_0, tot_nil, List.length_nil, List.length_cons, A0l_0, A0l_1, A0l_2, A0l_3, A0l_4, A0l_5, A0l_6, A0l_7, A0l_8, A0l_9, A0l_10, A0l_11, A0l_12, A0l_13, A0l_14, A0l_15, A0l_16, A0l_17, A0l_18, A0l_19, A0l_20, A0l_21, A0l_22, A0l_23, A0l_24, A0l_25, A0l_26, A0l_27, A0l_28, B0l_0, B0l_1, B0l_2, B0l_3, B0l_4] <;> simp [setA_len, put_len, put_tot, pad_0, tot_nil, List.length_nil, List.length_cons, A0l_0, A0l_1, A0l_2, A0l_3, A0l_4, A0l_5, A0l_6, A0l_7, A0l_8, A0l_9, A0l_10, A0l_11, A0l_12, A0l_13, A0l_14, A0l_15, A0l_16, A0l_17, A0l_18, A0l_19, A0l_20, A0l_21, A0l_22, A0l_23, A0l_24, A0l_25, A0l_26, A0l_27, A0l_28, B0l_0, B0l_1, B0l_2, B0l_3, B0l_4]
      · simp [a1, c1, c2, c3, d1, z22, z24, z25, z26, m9_0, m9_3, m9_4, m9_5, m9_8u, m9_9, m9_10, m9_12, m9_15, m9_16, m9_18, m9_21, m9_22, m9_24, m9_27, m9_28, m9_31, m9_32u, m9_34, m9_35, m9_36, m9_39u, m9_41, m9_43, m9_45, m9_48, m9_49, m9_50, m9_52, m9_55, m9_56, m9_59, m9_60u, m9_62, m9_63, m9_66, m9_68, m9_71, m9_72, m9_73, m9_74, m9_77, m9_80, m9_81, m9_82, m9_83, m9_86, m9_89, m9_90, m9_91, m9_92, m9_95, m9_98, m9_99, m9_100, m9_101, m9_102, m9_105, m9_106, m9_109, m9_110, m9_113, m9_114, m0_0, m0_1, m0_4, m0_5, m0_6, m0_9, m0_10, m0_11, m0_14, m0_15, m0_16, m0_19, m0_20, m0_21, m0_24, m0_25, m0_26, m0_29, m0_30, m0_31, m0_34, m0_35, m0_36, m0_39, m0_40, m0_41, m0_44, m0_45, m0_46, m0_49, m0_50, m0_51, m0_54, m0_55, m0_56, m0_59, m0_60, m0_62, m0_65, m0_66, m0_68, m0_71, m0_72, m0_74, m0_77, m0_78, m0_80, m0_83, m0_84, m0_86, m0_89, m0_90, m0_92, m0_95, m0_96, m0_98, m0_101, m0_102, m0_104, m0_107, m0_108, m0_110, m0_113, m0_114, m0_116, m0_119, m0_120, m0_128, m0_129, m0_137, m0_138, m0_146, m0_147, m0_154, m0_155, m0_162, m0_163, m0_170, m0_171, m0_179, m0_180, m0_187, m0_188, m0_195, m0_196, m0_203, m0_204, m0_211, m0_212, m0_219, m0_220, m0_227, m0_228, m0_235, m0_236, m0_243, m0_244, m0_251, m0_252, m0_259, m0_260, m0_267, m0_268, m0_275, m0_276, m0_283, m0_284, m0_292, m0_293, m0_301, m0_302, m0_310, m0_311, m0_319, m0_320, m0_328, m0_329, m0_336, m0_337, m0_344, m0_345, m0_352, m0_353, m0_360, m0_361, m0_368, m0_369, m0_376, m0_377, m0_384, m0_385, m0_393, m0_394, m0_402, m0_403u, m0_404, m0_405, m0_407, m0_410, m0_412i, m0_413, m0_414, m0_416, m0_419, m0_421i, m0_422, m0_423, m0_424, m0_427, m1_0, m1_1, m1_2, m1_5, m1_8, m1_9, m1_12, m1_15, m1_18, m1_19, m1_20, m1_21, m1_24, m1_25, m1_28, m1_29, m1_30, m1_31, m1_32, m1_33, m1_36, m1_37, m1_38, m1_41, m1_42, m1_45, m1_46, m2_0, m2_1, m2_3, m2_6, m2_7, m2_9, m2_12, m2_13, m2_15, m2_18, m2_19, m2_22, m2_23, m3_0, m3_1, m3_4, m4_0, m4_1, m4_4, m5_0, m5_1, m5_4, m5_5, m5_8, m5_9, m5_12, m5_15, m5_16, m6_0, m6_1, m6_4, m6_5, m6_8, m6_9, m6_12, m6_15, m6_16, m7_0, m7_1, m7_4, m7_5, m7_6, m7_9, m7_12, m7_13, m7_15, m7_18, m7_19, m7_20, m7_21, m7_24, m7_25, m7_26, m8_0, m8_1, m8_2, m8_5, m8_6, m8_7, m8_10, m8_11, m8_12, m8_15, m8_16, m8_17, m8_20, m8_21, m8_22, m8_25, m8_26, m8_27, m8_30, nb0, nb1, ou_a, Option.toList_some, Option.toList_none, List.nil_append, List.cons_append, getA_set2, setA_len, inB_iff, A0g_0, A0g_1, A0g_2, A0g_3, A0g_4, A0g_5, A0g_6, A0g_7, A0g_8, A0g_9, A0g_10, A0g_11, A0g_12, A0g_13, A0g_14, A0g_15, A0g_16, A0g_17, A0g_18, A0g_19, A0g_20, A0g_21, A0g_22, A0g_23, A0g_24, A0g_25, A0g_26, A0g_27, A0g_28, A0l_0, A0l_1, A0l_2, A0l_3, A0l_4, A0l_5, A0l_6, A0l_7, A0l_8, A0l_9, A0l_10, A0l_11, A0l_12, A0l_13, A0l_14, A0l_15, A0l_16, A0l_17, A0l_18, A0l_19, A0l_20, A0l_21, A0l_22, A0l_23, A0l_24, A0l_25, A0l_26, A0l_27, A0l_28, B0l_0, B0l_1, B0l_2, B0l_3, B0l_4]
        refine ⟨?_, ?_⟩ <;> simp only [ou_a, setA_len, put_len, put_tot, pad_0, tot_nil, List.length_nil, List.length_cons, A0l_0, A0l_1, A0l_2, A0l_3, A0l_4, A0l_5, A0l_6, A0l_7, A0l_8, A0l_9, A0l_10, A0l_11, A0l_12, A0l_13, A0l_14, A0l_15, A0l_16, A0l_17, A0l_18, A0l_19, A0l_20, A0l_21, A0l_22, A0l_23, A0l_24, A0l_25, A0l_26, A0l_27, A0l_28, B0l_0, B0l_1, B0l_2, B0l_3, B0l_4] <;> simp [setA_len, put_len, put_tot, pad_0, tot_nil, List.length_nil, List.length_cons, A0l_0, A0l_1, A0l_2, A0l_3, A0l_4, A0l_5, A0l_6, A0l_7, A0l_8, A0l_9, A0l_10, A0l_11, A0l_12, A0l_13, A0l_14, A0l_15, A0l_16, A0l_17, A0l_18, A0l_19, A0l_20, A0l_21, A0l_22, A0l_23, A0l_24, A0l_25, A0l_26, A0l_27, A0l_28, B0l_0, B0l_1, B0l_2, B0l_3, B0l_4]
  by_cases a2 : 32 < i0
  · by_cases c1 : i1 = 10
    · by_cases d1 : i2 < 0
      · simp [a1, a2, c1, d1, z22, z24, z25, z26, m9_0, m9_3, m9_4, m9_5, m9_8u, m9_9, m9_10, m9_12, m9_15, m9_16, m9_18, m9_21, m9_22, m9_24, m9_27, m9_28, m9_31, m9_32u, m9_34, m9_35, m9_36, m9_39u, m9_41, m9_43, m9_45, m9_48, m9_49, m9_50, m9_52, m9_55, m9_56, m9_59, m9_60u, m9_62, m9_63, m9_66, m9_68, m9_71, m9_72, m9_73, m9_74, m9_77, m9_80, m9_81, m9_82, m9_83, m9_86, m9_89, m9_90, m9_91, m9_92, m9_95, m9_98, m9_99, m9_100, m9_101, m9_102, m9_105, m9_106, m9_109, m9_110, m9_113, m9_114, m0_0, m0_1, m0_4, m0_5, m0_6, m0_9, m0_10, m0_11, m0_14, m0_15, m0_16, m0_19, m0_20, m0_21, m0_24, m0_25, m0_26, m0_29, m0_30, m0_31, m0_34, m0_35, m0_36, m0_39, m0_40, m0_41, m0_44, m0_45, m0_46, m0_49, m0_50, m0_51, m0_54, m0_55, m0_56, m0_59, m0_60, m0_62, m0_65, m0_66, m0_68, m0_71, m0_72, m0_74, m0_77, m0_78, m0_80, m0_83, m0_84, m0_86, m0_89, m0_90, m0_92, m0_95, m0_96, m0_98, m0_101, m0_102, m0_104, m0_107, m0_108, m0_110, m0_113, m0_114, m0_116, m0_119, m0_120, m0_128, m0_129, m0_137, m0_138, m0_146, m0_147, m0_154, m0_155, m0_162, m0_163, m0_170, m0_171, m0_179, m0_180, m0_187, m0_188, m0_195, m0_196, m0_203, m0_204, m0_211, m0_212, m0_219, m0_220, m0_227, m0_228, m0_235, m0_236, m0_243, m0_244, m0_251, m0_252, m0_259, m0_260, m0_267, m0_268, m0_275, m0_276, m0_283, m0_284, m0_292, m0_293, m0_301, m0_302, m0_310, m0_311, m0_319, m0_320, m0_328, m0_329, m0_336, m0_337, m0_344, m0_345, m0_352, m0_353, m0_360, m0_361, m0_368, m0_369, m0_376, m0_377, m0_384, m0_385, m0_393, m0_394, m0_402, m0_403u, m0_404, m0_405, m0_407, m0_410, m0_412i, m0_413, m0_414, m0_416, m0_419, m0_421i, m0_422, m0_423, m0_424, m0_427, m1_0, m1_1, m1_2, m1_5, m1_8, m1_9, m1_12, m1_15, m1_18, m1_19, m1_20, m1_21, m1_24, m1_25, m1_28, m1_29, m1_30, m1_31, m1_32, m1_33, m1_36, m1_37, m1_38, m1_41, m1_42, m1_45, m1_46, m2_0, m2_1, m2_3, m2_6, m2_7, m2_9, m2_12, m2_13, m2_15, m2_18, m2_19, m2_22, m2_23, m3_0, m3_1, m3_4, m4_0, m4_1, m4_4, m5_0, m5_1, m5_4, m5_5, m5_8, m5_9, m5_12, m5_15, m5_16, m6_0, m6_1, m6_4, m6_5, m6_8, m6_9, m6_12, m6_15, m6_16, m7_0, m7_1, m7_4, m7_5, m7_6, m7_9, m7_12, m7_13, m7_15, m7_18, m7_19, m7_20, m7_21, m7_24, m7_25, m7_26, m8_0, m8_1, m8_2, m8_5, m8_6, m8_7, m8_10, m8_11, m8_12, m8_15, m8_16, m8_17, m8_20, m8_21, m8_22, m8_25, m8_26, m8_27, m8_30, nb0, nb1, ou_a, Option.toList_some, Option.toList_none, List.nil_append, List.cons_append, getA_set2, setA_len, inB_iff, A0g_0, A0g_1, A0g_2, A0g_3, A0g_4, A0g_5, A0g_6, A0g_7, A0g_8, A0g_9, A0g_10, A0g_11, A0g_12, A0g_13, A0g_14, A0g_15, A0g_16, A0g_17, A0g_18, A0g_19, A0g_20, A0g_21, A0g_22, A0g_23, A0g_24, A0g_25, A0g_26, A0g_27, A0g_28, A0l_0, A0l_1, A0l_2, A0l_3, A0l_4, A0l_5, A0l_6, A0l_7, A0l_8, A0l_9, A0l_10, A0l_11, A0l_12, A0l_13, A0l_14, A0l_15, A0l_16, A0l_17, A0l_18, A0l_19, A0l_20, A0l_21, A0l_22, A0l_23, A0l_24, A0l_25, A0l_26, A0l_27, A0l_28, B0l_0, B0l_1, B0l_2, B0l_3, B0l_4]
        refine ⟨?_, ?_⟩ <;> simp only [ou_a, setA_len, put_len, put_tot, pad_0, tot_nil, List.length_nil, List.length_cons, A0l_0, A0l_1, A0l_2, A0l_3, A0l_4, A0l_5, A0l_6, A0l_7, A0l_8, A0l_9, A0l_10, A0l_11, A0l_12, A0l_13, A0l_14, A0l_15, A0l_16, A0l_17, A0l_18, A0l_19, A0l_20, A0l_21, A0l_22, A0l_23, A0l_24, A0l_25, A0l_26, A0l_27, A0l_28, B0l_0, B0l_1, B0l_2, B0l_3, B0l_4] <;> simp [setA_len, put_len, put_tot, pad_0, tot_nil, List.length_nil, List.length_cons, A0l_0, A0l_1, A0l_2, A0l_3, A0l_4, A0l_5, A0l_6, A0l_7, A0l_8, A0l_9, A0l_10, A0l_11, A0l_12, A0l_13, A0l_14, A0l_15, A0l_16, A0l_17, A0l_18, A0l_19, A0l_20, A0l_21, A0l_22, A0l_23, A0l_24, A0l_25, A0l_26, A0l_27, A0l_28, B0l_0, B0l_1, B0l_2, B0l_3, B0l_4]
      · simp [a1, a2, c1, d1, z22, z24, z25, z26, m9_0, m9_3, m9_4, m9_5, m9_8u, m9_9, m9_10, m9_12, m9_15, m9_16, m9_18, m9_21, m9_22, m9_24, m9_27, m9_28, m9_31, m9_32u, m9_34, m9_35, m9_36, m9_39u, m9_41, m9_43, m9_45, m9_48, m9_49, m9_50, m9_52, m9_55, m9_56, m9_59, m9_60u, m9_62, m9_63, m9_66, m9_68, m9_71, m9_72, m9_73, m9_74, m9_77, m9_80, m9_81, m9_82, m9_83, m9_86, m9_89, m9_90, m9_91, m9_92, m9_95, m9_98, m9_99, m9_100, m9_101, m9_102, m9_105, m9_106, m9_109, m9_110, m9_113, m9_114, m0_0, m0_1, m0_4, m0_5, m0_6, m0_9, m0_10, m0_11, m0_14, m0_15, m0_16, m0_19, m0_20, m0_21, m0_24, m0_25, m0_26, m0_29, m0_30, m0_31, m0_34, m0_35, m0_36, m0_39, m0_40, m0_41, m0_44, m0_45, m0_46, m0_49, m0_50, m0_51, m0_54, m0_55, m0_56, m0_59, m0_60, m0_62, m0_65, m0_66, m0_68, m0_71, m0_72, m0_74, m0_77, m0_78, m0_80, m0_83, m0_84, m0_86, m0_89, m0_90, m0_92, m0_95, m0_96, m0_98, m0_101, m0_102, m0_104, m0_107, m0_108, m0_110, m0_113, m0_114, m0_116, m0_119, m0_120, m0_128, m0_129, m0_137, m0_138, m0_146, m0_147, m0_154, m0_155, m0_162, m0_163, m0_170, m0_171, m0_179, m0_180, m0_187, m0_188, m0_195, m0_196, m0_203, m0_204, m0_211, m0_212, m0_219, m0_220, m0_227, m0_228, m0_235, m0_236, m0_243, m0_244, m0_251, m0_252, m0_259, m0_260, m0_267, m0_268, m0_275, m0_276, m0_283, m0_284, m0_292, m0_293, m0_301, m0_302, m0_310, m0_311, m0_319, m0_320, m0_328, m0_329, m0_336, m0_337, m0_344, m0_345, m0_352, m0_353, m0_360, m0_361, m0_368, m0_369, m0_376, m0_377, m0_384, m0_385, m0_393, m0_394, m0_402, m0_403u, m0_404, m0_405, m0_407, m0_410, m0_412i, m0_413, m0_414, m0_416, m0_419, m0_421i, m0_422, m0_423, m0_424, m0_427, m1_0, m1_1, m1_2, m1_5, m1_8, m1_9, m1_12, m1_15, m1_18, m1_19, m1_20, m1_21, m1_24, m1_25, m1_28, m1_29, m1_30, m1_31, m1_32, m1_33, m1_36, m1_37, m1_38, m1_41, m1_42, m1_45, m1_46, m2_0, m2_1, m2_3, m2_6, m2_7, m2_9, m2_12, m2_13, m2_15, m2_18, m2_19, m2_22, m2_23, m3_0, m3_1, m3_4, m4_0, m4_1, m4_4, m5_0, m5_1, m5_4, m5_5, m5_8, m5_9, m5_12, m5_15, m5_16, m6_0, m6_1, m6_4, m6_5, m6_8, m6_9, m6_12, m6_15, m6_16, m7_0, m7_1, m7_4, m7_5, m7_6, m7_9, m7_12, m7_13, m7_15, m7_18, m7_19, m7_20, m7_21, m7_24, m7_25, m7_26, m8_0, m8_1, m8_2, m8_5, m8_6, m8_7, m8_10, m8_11, m8_12, m8_15, m8_16, m8_17, m8_20, m8_21, m8_22, m8_25, m8_26, m8_27, m8_30, nb0, nb1, ou_a, Option.toList_some, Option.toList_none, List.nil_append, List.cons_append, getA_set2, setA_len, inB_iff, A0g_0, A0g_1, A0g_2, A0g_3, A0g_4, A0g_5, A0g_6, A0g_7, A0g_8, A0g_9, A0g_10, A0g_11, A0g_12, A0g_13, A0g_14, A0g_15, A0g_16, A0g_17, A0g_18, A0g_19, A0g_20, A0g_21, A0g_22, A0g_23, A0g_24, A0g_25, A0g_26, A0g_27, A0g_28, A0l_0, A0l_1, A0l_2, A0l_3, A0l_4, A0l_5, A0l_6, A0l_7, A0l_8, A0l_9, A0l_10, A0l_11, A0l_12, A0l_13, A0l_14, A0l_15, A0l_16, A0l_17, A0l_18, A0l_19, A0l_20, A0l_21, A0l_22, A0l_23, A0l_24, A0l_25, A0l_26, A0l_27, A0l_28, B0l_0, B0l_1, B0l_2, B0l_3, B0l_4]
        refine ⟨?_, ?_⟩ <;> simp only [ou_a, setA_len, put_len, put_tot, pad_0, tot_nil, List.length_nil, List.length_cons, A0l_0, A0l_1, A0l_2, A0l_3, A0l_4, A0l_5, A0l_6, A0l_7, A0l_8, A0l_9, A0l_10, A0l_11, A0l_12, A0l_13, A0l_14, A0l_15, A0l_16, A0l_17, A0l_18, A0l_19, A0l_20, A0l_21, A0l_22, A0l_23, A0l_24, A0l_25, A0l_26, A0l_27, A0l_28, B0l_0, B0l_1, B0l_2, B0l_3, B0l_4] <;> simp [setA_len, put_len, put_tot, pad_0, tot_nil, List.length_nil, List.length_cons, A0l_0, A0l_1, A0l_2, A0l_3, A0l_4, A0l_5, A0l_6, A0l_7, A0l_8, A0l_9, A0l_10, A0l_11, A0l_12, A0l_13, A0l_14, A0l_15, A0l_16, A0l_17, A0l_18, A0l_19, A0l_20, A0l_21, A0l_22, A0l_23, A0l_24, A0l_25, A0l_26, A0l_27, A0l_28, B0l_0, B0l_1, B0l_2, B0l_3, B0l_4]
    by_cases c2 : i1 < 32
    · by_cases d1 : i2 < 0
      · simp [a1, a2, c1, c2, d1, z22, z24, z25, z26, m9_0, m9_3, m9_4, m9_5, m9_8u, m9_9, m9_10, m9_12, m9_15, m9_16, m9_18, m9_21, m9_22, m9_24, m9_27, m9_28, m9_31, m9_32u, m9_34, m9_35, m9_36, m9_39u, m9_41, m9_43, m9_45, m9_48, m9_49, m9_50, m9_52, m9_55, m9_56, m9_59, m9_60u, m9_62, m9_63, m9_66, m9_68, m9_71, m9_72, m9_73, m9_74, m9_77, m9_80, m9_81, m9_82, m9_83, m9_86, m9_89, m9_90, m9_91, m9_92, m9_95, m9_98, m9_99, m9_100, m9_101, m9_102, m9_105, m9_106, m9_109, m9_110, m9_113, m9_114, m0_0, m0_1, m0_4, m0_5, m0_6, m0_9, m0_10, m0_11, m0_14, m0_15, m0_16, m0_19, m0_20, m0_21, m0_24, m0_25, m0_26, m0_29, m0_30, m0_31, m0_34, m0_35, m0_36, m0_39, m0_40, m0_41, m0_44, m0_45, m0_46, m0_49, m0_50, m0_51, m0_54, m0_55, m0_56, m0_59, m0_60, m0_62, m0_65, m0_66, m0_68, m0_71, m0_72, m0_74, m0_77, m0_78, m0_80, m0_83, m0_84, m0_86, m0_89, m0_90, m0_92, m0_95, m0_96, m0_98, m0_101, m0_102, m0_104, m0_107, m0_108, m0_110, m0_113, m0_114, m0_116, m0_119, m0_120, m0_128, m0_129, m0_137, m0_138, m0_146, m0_147, m0_154, m0_155, m0_162, m0_163, m0_170, m0_171, m0_179, m0_180, m0_187, m0_188, m0_195, m0_196, m0_203, m0_204, m0_211, m0_212, m0_219, m0_220, m0_227, m0_228, m0_235, m0_236, m0_243, m0_244, m0_251, m0_252, m0_259, m0_260, m0_267, m0_268, m0_275, m0_276, m0_283, m0_284, m0_292, m0_293, m0_301, m0_302, m0_310, m0_311, m0_319, m0_320, m0_328, m0_329, m0_336, m0_337, m0_344, m0_345, m0_352, m0_353, m0_360, m0_361, m0_368, m0_369, m0_376, m0_377, m0_384, m0_385, m0_393, m0_394, m0_402, m0_403u, m0_404, m0_405, m0_407, m0_410, m0_412i, m0_413, m0_414, m0_416, m0_419, m0_421i, m0_422, m0_423, m0_424, m0_427, m1_0, m1_1, m1_2, m1_5, m1_8, m1_9, m1_12, m1_15, m1_18, m1_19, m1_20, m1_21, m1_24, m1_25, m1_28, m1_29, m1_30, m1_31, m1_32, m1_33, m1_36, m1_37, m1_38, m1_41, m1_42, m1_45, m1_46, m2_0, m2_1, m2_3, m2_6, m2_7, m2_9, m2_12, m2_13, m2_15, m2_18, m2_19, m2_22, m2_23, m3_0, m3_1, m3_4, m4_0, m4_1, m4_4, m5_0, m5_1, m5_4, m5_5, m5_8, m5_9, m5_12, m5_15, m5_16, m6_0, m6_1, m6_4, m6_5, m6_8, m6_9, m6_12, m6_15, m6_16, m7_0, m7_1, m7_4, m7_5, m7_6, m7_9, m7_12, m7_13, m7_15, m7_18, m7_19, m7_20, m7_21, m7_24, m7_25, m7_26, m8_0, m8_1, m8_2, m8_5, m8_6, m8_7, m8_10, m8_11, m8_12, m8_15, m8_16, m8_17, m8_20, m8_21, m8_22, m8_25, m8_26, m8_27, m8_30, nb0, nb1, ou_a, Option.toList_some, Option.toList_none, List.nil_append, List.cons_append, getA_set2, setA_len, inB_iff, A0g_0, A0g_1, A0g_2, A0g_3, A0g_4, A0g_5, A0g_6, A0g_7, A0g_8, A0g_9, A0g_10, A0g_11, A0g_12, A0g_13, A0g_14, A0g_15, A0g_16, A0g_17, A0g_18, A0g_19, A0g_20, A0g_21, A0g_22, A0g_23, A0g_24, A0g_25, A0g_26, A0g_27, A0g_28, A0l_0, A0l_1, A0l_2, A0l_3, A0l_4, A0l_5, A0l_6, A0l_7, A0l_8, A0l_9, A0l_10, A0l_11, A0l_12, A0l_13, A0l_14, A0l_15, A0l_16, A0l_17, A0l_18, A0l_19, A0l_20, A0l_21, A0l_22, A0l_23, A0l_24, A0l_25, A0l_26, A0l_27, A0l_28, B0l_0, B0l_1, B0l_2, B0l_3, B0l_4]
        refine ⟨?_, ?_⟩ <;> simp only [ou_a, setA_len, put_len, put_tot, pad_0, tot_nil, List.length_nil, List.length_cons, A0l_0, A0l_1, A0l_2, A0l_3, A0l_4, A0l_5, A0l_6, A0l_7, A0l_8, A0l_9, A0l_10, A0l_11, A0l_12, A0l_13, A0l_14, A0l_15, A0l_16, A0l_17, A0l_18, A0l_19, A0l_20, A0l_21, A0l_22, A0l_23, A0l_24, A0l_25, A0l_26, A0l_27, A0l_28, B0l_0, B0l_1, B0l_2, B0l_3, B0l_4] <;> simp [setA_len, put_len, put_tot, pad_0, tot_nil, List.length_nil, List.length_cons, A0l_0, A0l_1, A0l_2, A0l_3, A0l_4, A0l_5, A0l_6, A0l_7, A0l_8, A0l_9, A0l_10, A0l_11, A0l_12, A0l_13, A0l_14, A0l_15, A0l_16, A0l_17, A0l_18, A0l_19, A0l_20, A0l_21, A0l_22, A0l_23, A0l_24, A0l_25, A0l_26, A0l_27, A0l_28, B0l_0, B0l_1, B0l_2, B0l_3, B0l_4]
      · simp [a1, a2, c1, c2, d1, z22, z24, z25, z26, m9_0, m9_3, m9_4, m9_5, m9_8u, m9_9, m9_10, m9_12, m9_15, m9_16, m9_18, m9_21, m9_22, m9_24, m9_27, m9_28, m9_31, m9_32u, m9_34, m9_35, m9_36, m9_39u, m9_41, m9_43, m9_45, m9_48, m9_49, m9_50, m9_52, m9_55, m9_56, m9_59, m9_60u, m9_62, m9_63, m9_66, m9_68, m9_71, m9_72, m9_73, m9_74, m9_77, m9_80, m9_81, m9_82, m9_83, m9_86, m9_89, m9_90, m9_91, m9_92, m9_95, m9_98, m9_99, m9_100, m9_101, m9_102, m9_105, m9_106, m9_109, m9_110, m9_113, m9_114, m0_0, m0_1, m0_4, m0_5, m0_6, m0_9, m0_10, m0_11, m0_14, m0_15, m0_16, m0_19, m0_20, m0_21, m0_24, m0_25, m0_26, m0_29, m0_30, m0_31, m0_34, m0_35, m0_36, m0_39, m0_40, m0_41, m0_44, m0_45, m0_46, m0_49, m0_50, m0_51, m0_54, m0_55, m0_56, m0_59, m0_60, m0_62, m0_65, m0_66, m0_68, m0_71, m0_72, m0_74, m0_77, m0_78, m0_80, m0_83, m0_84, m0_86, m0_89, m0_90, m0_92, m0_95, m0_96, m0_98, m0_101, m0_102, m0_104, m0_107, m0_108, m0_110, m0_113, m0_114, m0_116, m0_119, m0_120, m0_128, m0_129, m0_137, m0_138, m0_146, m0_147, m0_154, m0_155, m0_162, m0_163, m0_170, m0_171, m0_179, m0_180, m0_187, m0_188, m0_195, m0_196, m0_203, m0_204, m0_211, m0_212, m0_219, m0_220, m0_227, m0_228, m0_235, m0_236, m0_243, m0_244, m0_251, m0_252, m0_259, m0_260, m0_267, m0_268, m0_275, m0_276, m0_283, m0_284, m0_292, m0_293, m0_301, m0_302, m0_310, m0_311, m0_319, m0_320, m0_328, m0_329, m0_336, m0_337, m0_344, m0_345, m0_352, m0_353, m0_360, m0_361, m0_368, m0_369, m0_376, m0_377, m0_384, m0_385, m0_393, m0_394, m0_402, m0_403u, m0_404, m0_405, m0_407, m0_410, m0_412i, m0_413, m0_414, m0_416, m0_419, m0_421i, m0_422, m0_423, m0_424, m0_427, m1_0, m1_1, m1_2, m1_5, m1_8, m1_9, m1_12, m1_15, m1_18, m1_19, m1_20, m1_21, m1_24, m1_25, m1_28, m1_29, m1_30, m1_31, m1_32, m1_33, m1_36, m1_37, m1_38, m1_41, m1_42, m1_45, m1_46, m2_0, m2_1, m2_3, m2_6, m2_7, m2_9, m2_12, m2_13, m2_15, m2_18, m2_19, m2_22, m2_23, m3_0, m3_1, m3_4, m4_0, m4_1, m4_4, m5_0, m5_1, m5_4, m5_5, m5_8, m5_9, m5_12, m5_15, m5_16, m6_0, m6_1, m6_4, m6_5, m6_8, m6_9, m6_12, m6_15, m6_16, m7_0, m7_1, m7_4, m7_5, m7_6, m7_9, m7_12, m7_13, m7_15, m7_18, m7_19, m7_20, m7_21, m7_24, m7_25, m7_26, m8_0, m8_1, m8_2, m8_5, m8_6, m8_7, m8_10, m8_11, m8_12, m8_15, m8_16, m8_17, m8_20, m8_21, m8_22, m8_25, m8_26, m8_27, m8_30, nb0, nb1, ou_a, Option.toList_some, Option.toList_none, List.nil_append, List.cons_append, getA_set2, setA_len, inB_iff, A0g_0, A0g_1, A0g_2, A0g_3, A0g_4, A0g_5, A0g_6, A0g_7, A0g_8, A0g_9, A0g_10, A0g_11, A0g_12, A0g_13, A0g_14, A0g_15, A0g_16, A0g_17, A0g_18, A0g_19, A0g_20, A0g_21, A0g_22, A0g_23, A0g_24, A0g_25, A0g_26, A0g_27, A0g_28, A0l_0, A0l_1, A0l_2, A0l_3, A0l_4, A0l_5, A0l_6, A0l_7, A0l_8, A0l_9, A0l_10, A0l_11, A0l_12, A0l_13, A0l_14, A0l_15, A0l_16, A0l_17, A0l_18, A0l_19, A0l_20, A0l_21, A0l_22, A0l_23, A0l_24, A0l_25, A0l_26, A0l_27, A0l_28, B0l_0, B0l_1, B0l_2, B0l_3, B0l_4]
        refine ⟨?_, ?_⟩ <;> simp only [ou_a, setA_len, put_len, put_tot, pad_0, tot_nil, List.length_nil, List.length_cons, A0l_0, A0l_1, A0l_2, A0l_3, A0l_4, A0l_5, A0l_6, A0l_7, A0l_8, A0l_9, A0l_10, A0l_11, A0l_12, A0l_13, A0l_14, A0l_15, A0l_16, A0l_17, A0l_18, A0l_19, A0l_20, A0l_21, A0l_22, A0l_23, A0l_24, A0l_25, A0l_26, A0l_27, A0l_28, B0l_0, B0l_1, B0l_2, B0l_3, B0l_4] <;> simp [setA_len, put_len, put_tot, pad_0, tot_nil, List.length_nil, List.length_cons, A0l_0, A0l_1, A0l_2, A0l_3, A0l_4, A0l_5, A0l_6, A0l_7, A0l_8, A0l_9, A0l_10, A0l_11, A0l_12, A0l_13, A0l_14, A0l_15, A0l_16, A0l_17, A0l_18, A0l_19, A0l_20, A0l_21, A0l_22, A0l_23, A0l_24, A0l_25, A0l_26, A0l_27, A0l_28, B0l_0, B0l_1, B0l_2, B0l_3, B0l_4]
    by_cases c3 : 126 < i1
    · by_cases d1 : i2 < 0
      · simp [a1, a2, c1, c2, c3, d1, z22, z24, z25, z26, m9_0, m9_3, m9_4, m9_5, m9_8u, m9_9, m9_10, m9_12, m9_15, m9_16, m9_18, m9_21, m9_22, m9_24, m9_27, m9_28, m9_31, m9_32u, m9_34, m9_35, m9_36, m9_39u, m9_41, m9_43, m9_45, m9_48, m9_49, m9_50, m9_52, m9_55, m9_56, m9_59, m9_60u, m9_62, m9_63, m9_66, m9_68, m9_71, m9_72, m9_73, m9_74, m9_77, m9_80, m9_81, m9_82, m9_83, m9_86, m9_89, m9_90, m9_91, m9_92, m9_95, m9_98, m9_99, m9_100, m9_101, m9_102, m9_105, m9_106, m9_109, m9_110, m9_113, m9_114, m0_0, m0_1, m0_4, m0_5, m0_6, m0_9, m0_10, m0_11, m0_14, m0_15, m0_16, m0_19, m0_20, m0_21, m0_24, m0_25, m0_26, m0_29, m0_30, m0_31, m0_34, m0_35, m0_36, m0_39, m0_40, m0_41, m0_44, m0_45, m0_46, m0_49, m0_50, m0_51, m0_54, m0_55, m0_56, m0_59, m0_60, m0_62, m0_65, m0_66, m0_68, m0_71, m0_72, m0_74, m0_77, m0_78, m0_80, m0_83, m0_84, m0_86, m0_89, m0_90, m0_92, m0_95, m0_96, m0_98, m0_101, m0_102, m0_104, m0_107, m0_108, m0_110, m0_113, m0_114, m0_116, m0_119, m0_120, m0_128, m0_129, m0_137, m0_138, m0_146, m0_147, m0_154, m0_155, m0_162, m0_163, m0_170, m0_171, m0_179, m0_180, m0_187, m0_188, m0_195, m0_196, m0_203, m0_204, m0_211, m0_212, m0_219, m0_220, m0_227, m0_228, m0_235, m0_236, m0_243, m0_244, m0_251, m0_252, m0_259, m0_260, m0_267, m0_268, m0_275, m0_276, m0_283, m0_284, m0_292, m0_293, m0_301, m0_302, m0_310, m0_311, m0_319, m0_320, m0_328, m0_329, m0_336, m0_337, m0_344, m0_345, m0_352, m0_353, m0_360, m0_361, m0_368, m0_369, m0_376, m0_377, m0_384, m0_385, m0_393, m0_394, m0_402, m0_403u, m0_404, m0_405, m0_407, m0_410, m0_412i, m0_413, m0_414, m0_416, m0_419, m0_421i, m0_422, m0_423, m0_424, m0_427, m1_0, m1_1, m1_2, m1_5, m1_8, m1_9, m1_12, m1_15, m1_18, m1_19, m1_20, m1_21, m1_24, m1_25, m1_28, m1_29, m1_30, m1_31, m1_32, m1_33, m1_36, m1_37, m1_38, m1_41, m1_42, m1_45, m1_46, m2_0, m2_1, m2_3, m2_6, m2_7, m2_9, m2_12, m2_13, m2_15, m2_18, m2_19, m2_22, m2_23, m3_0, m3_1, m3_4, m4_0, m4_1, m4_4, m5_0, m5_1, m5_4, m5_5, m5_8, m5_9, m5_12, m5_15, m5_16, m6_0, m6_1, m6_4, m6_5, m6_8, m6_9, m6_12, m6_15, m6_16, m7_0, m7_1, m7_4, m7_5, m7_6, m7_9, m7_12, m7_13, m7_15, m7_18, m7_19, m7_20, m7_21, m7_24, m7_25, m7_26, m8_0, m8_1, m8_2, m8_5, m8_6, m8_7, m8_10, m8_11, m8_12, m8_15, m8_16, m8_17, m8_20, m8_21, m8_22, m8_25, m8_26, m8_27, m8_30, nb0, nb1, ou_a, Option.toList_some, Option.toList_none, List.nil_append, List.cons_append, getA_set2, setA_len, inB_iff, A0g_0, A0g_1, A0g_2, A0g_3, A0g_4, A0g_5, A0g_6, A0g_7, A0g_8, A0g_9, A0g_10, A0g_11, A0g_12, A0g_13, A0g_14, A0g_15, A0g_16, A0g_17, A0g_18, A0g_19, A0g_20, A0g_21, A0g_22, A0g_23, A0g_24, A0g_25, A0g_26, A0g_27, A0g_28, A0l_0, A0l_1, A0l_2, A0l_3, A0l_4, A0l_5, A0l_6, A0l_7, A0l_8, A0l_9, A0l_10, A0l_11, A0l_12, A0l_13, A0l_14, A0l_15, A0l_16, A0l_17, A0l_18, A0l_19, A0l_20, A0l_21, A0l_22, A0l_23, A0l_24, A0l_25, A0l_26, A0l_27, A0l_28, B0l_0, B0l_1, B0l_2, B0l_3, B0l_4]
        refine ⟨?_, ?_⟩ <;> simp only [ou_a, setA_len, put_len, put_tot, pad_0, tot_nil, List.length_nil, List.length_cons, A0l_0, A0l_1, A0l_2, A0l_3, A0l_4, A0l_5, A0l_6, A0l_7, A0l_8, A0l_9, A0l_10, A0l_11, A0l_12, A0l_13, A0l_14, A0l_15, A0l_16, A0l_17, A0l_18, A0l_19, A0l_20, A0l_21, A0l_22, A0l_23, A0l_24, A0l_25, A0l_26, A0l_27, A0l_28, B0l_0, B0l_1, B0l_2, B0l_3, B0l_4] <;> simp [setA_len, put_len, put_tot, pad_0, tot_nil, List.length_nil, List.length_cons, A0l_0, A0l_1, A0l_2, A0l_3, A0l_4, A0l_5, A0l_6, A0l_7, A0l_8, A0l_9, A0l_10, A0l_11, A0l_12, A0l_13, A0l_14, A0l_15, A0l_16, A0l_17, A0l_18, A0l_19, A0l_20, A0l_21, A0l_22, A0l_23, A0l_24, A0l_25, A0l_26, A0l_27, A0l_28, B0l_0, B0l_1, B0l_2, B0l_3, B0l_4]
      · simp [a1, a2, c1, c2, c3, d1, z22, z24, z25, z26, m9_0, m9_3, m9_4, m9_5, m9_8u, m9_9, m9_10, m9_12, m9_15, m9_16, m9_18, m9_21, m9_22, m9_24, m9_27, m9_28, m9_31, m9_32u, m9_34, m9_35, m9_36, m9_39u, m9_41, m9_43, m9_45, m9_48, m9_49, m9_50, m9_52, m9_55, m9_56, m9_59, m9_60u, m9_62, m9_63, m9_66, m9_68, m9_71, m9_72, m9_73, m9_74, m9_77, m9_80, m9_81, m9_82, m9_83, m9_86, m9_89, m9_90, m9_91, m9_92, m9_95, m9_98, m9_99, m9_100, m9_101, m9_102, m9_105, m9_106, m9_109, m9_110, m9_113, m9_114, m0_0, m0_1, m0_4, m0_5, m0_6, m0_9, m0_10, m0_11, m0_14, m0_15, m0_16, m0_19, m0_20, m0_21, m0_24, m0_25, m0_26, m0_29, m0_30, m0_31, m0_34, m0_35, m0_36, m0_39, m0_40, m0_41, m0_44, m0_45, m0_46, m0_49, m0_50, m0_51, m0_54, m0_55, m0_56, m0_59, m0_60, m0_62, m0_65, m0_66, m0_68, m0_71, m0_72, m0_74, m0_77, m0_78, m0_80, m0_83, m0_84, m0_86, m0_89, m0_90, m0_92, m0_95, m0_96, m0_98, m0_101, m0_102, m0_104, m0_107, m0_108, m0_110, m0_113, m0_114, m0_116, m0_119, m0_120, m0_128, m0_129, m0_137, m0_138, m0_146, m0_147, m0_154, m0_155, m0_162, m0_163, m0_170, m0_171, m0_179, m0_180, m0_187, m0_188, m0_195, m0_196, m0_203, m0_204, m0_211, m0_212, m0_219, m0_220, m0_227, m0_228, m0_235, m0_236, m0_243, m0_244, m0_251, m0_252, m0_259, m0_260, m0_267, m0_268, m0_275, m0_276, m0_283, m0_284, m0_292, m0_293, m0_301, m0_302, m0_310, m0_311, m0_319, m0_320, m0_328, m0_329, m0_336, m0_337, m0_344, m0_345, m0_352, m0_353, m0_360, m0_361, m0_368, m0_369, m0_376, m0_377, m0_384, m0_385, m0_393, m0_394, m0_402, m0_403u, m0_404, m0_405, m0_407, m0_410, m0_412i, m0_413, m0_414, m0_416, m0_419, m0_421i, m0_422, m0_423, m0_424, m0_427, m1_0, m1_1, m1_2, m1_5, m1_8, m1_9, m1_12, m1_15, m1_18, m1_19, m1_20, m1_21, m1_24, m1_25, m1_28, m1_29, m1_30, m1_31, m1_32, m1_33, m1_36, m1_37, m1_38, m1_41, m1_42, m1_45, m1_46, m2_0, m2_1, m2_3, m2_6, m2_7, m2_9, m2_12, m2_13, m2_15, m2_18, m2_19, m2_22, m2_23, m3_0, m3_1, m3_4, m4_0, m4_1, m4_4, m5_0, m5_1, m5_4, m5_5, m5_8, m5_9, m5_12, m5_15, m5_16, m6_0, m6_1, m6_4, m6_5, m6_8, m6_9, m6_12, m6_15, m6_16, m7_0, m7_1, m7_4, m7_5, m7_6, m7_9, m7_12, m7_13, m7_15, m7_18, m7_19, m7_20, m7_21, m7_24, m7_25, m7_26, m8_0, m8_1, m8_2, m8_5, m8_6, m8_7, m8_10, m8_11, m8_12, m8_15, m8_16, m8_17, m8_20, m8_21, m8_22, m8_25, m8_26, m8_27, m8_30, nb0, nb1, ou_a, Option.toList_some, Option.toList_none, List.nil_append, List.cons_append, getA_set2, setA_len, inB_iff, A0g_0, A0g_1, A0g_2, A0g_3, A0g_4, A0g_5, A0g_6, A0g_7, A0g_8, A0g_9, A0g_10, A0g_11, A0g_12, A0g_13, A0g_14, A0g_15, A0g_16, A0g_17, A0g_18, A0g_19, A0g_20, A0g_21, A0g_22, A0g_23, A0g_24, A0g_25, A0g_26, A0g_27, A0g_28, A0l_0, A0l_1, A0l_2, A0l_3, A0l_4, A0l_5, A0l_6, A0l_7, A0l_8, A0l_9, A0l_10, A0l_11, A0l_12, A0l_13, A0l_14, A0l_15, A0l_16, A0l_17, A0l_18, A0l_19, A0l_20, A0l_21, A0l_22, A0l_23, A0l_24, A0l_25, A0l_26, A0l_27, A0l_28, B0l_0, B0l_1, B0l_2, B0l_3, B0l_4]
        refine ⟨?_, ?_⟩ <;> simp only [ou_a, setA_len, put_len, put_tot, pad_0, tot_nil, List.length_nil, List.length_cons, A0l_0, A0l_1, A0l_2, A0l_3, A0l_4, A0l_5, A0l_6, A0l_7, A0l_8, A0l_9, A0l_10, A0l_11, A0l_12, A0l_13, A0l_14, A0l_15, A0l_16, A0l_17, A0l_18, A0l_19, A0l_20, A0l_21, A0l_22, A0l_23, A0l_24, A0l_25, A0l_26, A0l_27, A0l_28, B0l_0, B0l_1, B0l_2, B0l_3, B0l_4] <;> simp [setA_len, put_len, put_tot, pad_0, tot_nil, List.length_nil, List.length_cons, A0l_0, A0l_1, A0l_2, A0l_3, A0l_4, A0l_5, A0l_6, A0l_7, A0l_8, A0l_9, A0l_10, A0l_11, A0l_12, A0l_13, A0l_14, A0l_15, A0l_16, A0l_17, A0l_18, A0l_19, A0l_20, A0l_21, A0l_22, A0l_23, A0l_24, A0l_25, A0l_26, A0l_27, A0l_28, B0l_0, B0l_1, B0l_2, B0l_3, B0l_4]
    · by_cases d1 : i2 < 0
      · simp [a1, a2, c1, c2, c3, d1, z22, z24, z25, z26, m9_0, m9_3, m9_4, m9_5, m9_8u, m9_9, m9_10, m9_12, m9_15, m9_16, m9_18, m9_21, m9_22, m9_24, m9_27, m9_28, m9_31, m9_32u, m9_34, m9_35, m9_36, m9_39u, m9_41, m9_43, m9_45, m9_48, m9_49, m9_50, m9_52, m9_55, m9_56, m9_59, m9_60u, m9_62, m9_63, m9_66, m9_68, m9_71, m9_72, m9_73, m9_74, m9_77, m9_80, m9_81, m9_82, m9_83, m9_86, m9_89, m9_90, m9_91, m9_92, m9_95, m9_98, m9_99, m9_100, m9_101, m9_102, m9_105, m9_106, m9_109, m9_110, m9_113, m9_114, m0_0, m0_1, m0_4, m0_5, m0_6, m0_9, m0_10, m0_11, m0_14, m0_15, m0_16, m0_19, m0_20, m0_21, m0_24, m0_25, m0_26, m0_29, m0_30, m0_31, m0_34, m0_35, m0_36, m0_39, m0_40, m0_41, m0_44, m0_45, m0_46, m0_49, m0_50, m0_51, m0_54, m0_55, m0_56, m0_59, m0_60, m0_62, m0_65, m0_66, m0_68, m0_71, m0_72, m0_74, m0_77, m0_78, m0_80, m0_83, m0_84, m0_86, m0_89, m0_90, m0_92, m0_95, m0_96, m0_98, m0_101, m0_102, m0_104, m0_107, m0_108, m0_110, m0_113, m0_114, m0_116, m0_119, m0_120, m0_128, m0_129, m0_137, m0_138, m0_146, m0_147, m0_154, m0_155, m0_162, m0_163, m0_170, m0_171, m0_179, m0_180, m0_187, m0_188, m0_195, m0_196, m0_203, m0_204, m0_211, m0_212, m0_219, m0_220, m0_227, m0_228, m0_235, m0_236, m0_243, m0_244, m0_251, m0_252, m0_259, m0_260, m0_267, m0_268, m0_275, m0_276, m0_283, m0_284, m0_292, m0_293, m0_301, m0_302, m0_310, m0_311, m0_319, m0_320, m0_328, m0_329, m0_336, m0_337, m0_344, m0_345, m0_352, m0_353, m0_360, m0_361, m0_368, m0_369, m0_376, m0_377, m0_384, m0_385, m0_393, m0_394, m0_402, m0_403u, m0_404, m0_405, m0_407, m0_410, m0_412i, m0_413, m0_414, m0_416, m0_419, m0_421i, m0_422, m0_423, m0_424, m0_427, m1_0, m1_1, m1_2, m1_5, m1_8, m1_9, m1_12, m1_15, m1_18, m1_19, m1_20, m1_21, m1_24, m1_25, m1_28, m1_29, m1_30, m1_31, m1_32, m1_33, m1_36, m1_37, m1_38, m1_41, m1_42, m1_45, m1_46, m2_0, m2_1, m2_3, m2_6, m2_7, m2_9, m2_12, m2_13, m2_15, m2_18, m2_19, m2_22, m2_23, m3_0, m3_1, m3_4, m4_0, m4_1, m4_4, m5_0, m5_1, m5_4, m5_5, m5_8, m5_9, m5_12, m5_15, m5_16, m6_0, m6_1, m6_4, m6_5, m6_8, m6_9, m6_12, m6_15, m6_16, m7_0, m7_1, m7_4, m7_5, m7_6, m7_9, m7_12, m7_13, m7_15, m7_18, m7_19, m7_20, m7_21, m7_24, m7_25, m7_26, m8_0, m8_1, m8_2, m8_5, m8_6, m8_7, m8_10, m8_11, m8_12, m8_15, m8_16, m8_17, m8_20, m8_21, m8_22, m8_25, m8_26, m8_27, m8_30, nb0, nb1, ou_a, Option.toList_some, Option.toList_none, List.nil_append, List.cons_append, getA_set2, setA_len, inB_iff, A0g_0, A0g_1, A0g_2, A0g_3, A0g_4, A0g_5, A0g_6, A0g_7, A0g_8, A0g_9, A0g_10, A0g_11, A0g_12, A0g_13, A0g_14, A0g_15, A0g_16, A0g_17, A0g_18, A0g_19, A0g_20, A0g_21, A0g_22, A0g_23, A0g_24, A0g_25, A0g_26, A0g_27, A0g_28, A0l_0, A0l_1, A0l_2, A0l_3, A0l_4, A0l_5, A0l_6, A0l_7, A0l_8, A0l_9, A0l_10, A0l_11, A0l_12, A0l_13, A0l_14, A0l_15, A0l_16, A0l_17, A0l_18, A0l_19, A0l_20, A0l_21, A0l_22, A0l_23, A0l_24, A0l_25, A0l_26, A0l_27, A0l_28, B0l_0, B0l_1, B0l_2, B0l_3, B0l_4]
        refine ⟨?_, ?_⟩ <;> simp only [ou_a, setA_len, put_len, put_tot, pad_0, tot_nil, List.length_nil, List.length_cons, A0l_0, A0l_1, A0l_2, A0l_3, A0l_4, A0l_5, A0l_6, A0l_7, A0l_8, A0l_9, A0l_10, A0l_11, A0l_12, A0l_13, A0l_14, A0l_15, A0l_16, A0l_17, A0l_18, A0l_19, A0l_20, A0l_21, A0l_22, A0l_23, A0l_24, A0l_25, A0l_26, A0l_27, A0l_28, B0l_0, B0l_1, B0l_2, B0l_3, B0l_4] <;> simp [setA_len, put_len, put_tot, pad_0, tot_nil, List.length_nil, List.length_cons, A0l_0, A0l_1, A0l_2, A0l_3, A0l_4, A0l_5, A0l_6, A0l_7, A0l_8, A0l_9, A0l_10, A0l_11, A0l_12, A0l_13, A0l_14, A0l_15, A0l_16, A0l_17, A0l_18, A0l_19, A0l_20, A0l_21, A0l_22, A0l_23, A0l_24, A0l_25, A0l_26, A0l_27, A0l_28, B0l_0, B0l_1, B0l_2, B0l_3, B0l_4]
      · simp [a1, a2, c1, c2, c3, d1, z22, z24, z25, z26, m9_0, m9_3, m9_4, m9_5, m9_8u, m9_9, m9_10, m9_12, m9_15, m9_16, m9_18, m9_21, m9_22, m9_24, m9_27, m9_28, m9_31, m9_32u, m9_34, m9_35, m9_36, m9_39u, m9_41, m9_43, m9_45, m9_48, m9_49, m9_50, m9_52, m9_55, m9_56, m9_59, m9_60u, m9_62, m9_63, m9_66, m9_68, m9_71, m9_72, m9_73, m9_74, m9_77, m9_80, m9_81, m9_82, m9_83, m9_86, m9_89, m9_90, m9_91, m9_92, m9_95, m9_98, m9_99, m9_100, m9_101, m9_102, m9_105, m9_106, m9_109, m9_110, m9_113, m9_114, m0_0, m0_1, m0_4, m0_5, m0_6, m0_9, m0_10, m0_11, m0_14, m0_15, m0_16, m0_19, m0_20, m0_21, m0_24, m0_25, m0_26, m0_29, m0_30, m0_31, m0_34, m0_35, m0_36, m0_39, m0_40, m0_41, m0_44, m0_45, m0_46, m0_49, m0_50, m0_51, m0_54, m0_55, m0_56, m0_59, m0_60, m0_62, m0_65, m0_66, m0_68, m0_71, m0_72, m0_74, m0_77, m0_78, m0_80, m0_83, m0_84, m0_86, m0_89, m0_90, m0_92, m0_95, m0_96, m0_98, m0_101, m0_102, m0_104, m0_107, m0_108, m0_110, m0_113, m0_114, m0_116, m0_119, m0_120, m0_128, m0_129, m0_137, m0_138, m0_146, m0_147, m0_154, m0_155, m0_162, m0_163, m0_170, m0_171, m0_179, m0_180, m0_187, m0_188, m0_195, m0_196, m0_203, m0_204, m0_211, m0_212, m0_219, m0_220, m0_227, m0_228, m0_235, m0_236, m0_243, m0_244, m0_251, m0_252, m0_259, m0_260, m0_267, m0_268, m0_275, m0_276, m0_283, m0_284, m0_292, m0_293, m0_301, m0_302, m0_310, m0_311, m0_319, m0_320, m0_328, m0_329, m0_336, m0_337, m0_344, m0_345, m0_352, m0_353, m0_360, m0_361, m0_368, m0_369, m0_376, m0_377, m0_384, m0_385, m0_393, m0_394, m0_402, m0_403u, m0_404, m0_405, m0_407, m0_410, m0_412i, m0_413, m0_414, m0_416, m0_419, m0_421i, m0_422, m0_423, m0_424, m0_427, m1_0, m1_1, m1_2, m1_5, m1_8, m1_9, m1_12, m1_15, m1_18, m1_19, m1_20, m1_21, m1_24, m1_25, m1_28, m1_29, m1_30, m1_31, m1_32, m1_33, m1_36, m1_37, m1_38, m1_41, m1_42, m1_45, m1_46, m2_0, m2_1, m2_3, m2_6, m2_7, m2_9, m2_12, m2_13, m2_15, m2_18, m2_19, m2_22, m2_23, m3_0, m3_1, m3_4, m4_0, m4_1, m4_4, m5_0, m5_1, m5_4, m5_5, m5_8, m5_9, m5_12, m5_15, m5_16, m6_0, m6_1, m6_4, m6_5, m6_8, m6_9, m6_12, m6_15, m6_16, m7_0, m7_1, m7_4, m7_5, m7_6, m7_9, m7_12, m7_13, m7_15, m7_18, m7_19, m7_20, m7_21, m7_24, m7_25, m7_26, m8_0, m8_1, m8_2, m8_5, m8_6, m8_7, m8_10, m8_11, m8_12, m8_15, m8_16, m8_17, m8_20, m8_21, m8_22, m8_25, m8_26, m8_27, m8_30, nb0, nb1, ou_a, Option.toList_some, Option.toList_none, List.nil_append, List.cons_append, getA_set2, setA_len, inB_iff, A0g_0, A0g_1, A0g_2, A0g_3, A0g_4, A0g_5, A0g_6, A0g_7, A0g_8, A0g_9, A0g_10, A0g_11, A0g_12, A0g_13, A0g_14, A0g_15, A0g_16, A0g_17, A0g_18, A0g_19, A0g_20, A0g_21, A0g_22, A0g_23, A0g_24, A0g_25, A0g_26, A0g_27, A0g_28, A0l_0, A0l_1, A0l_2, A0l_3, A0l_4, A0l_5, A0l_6, A0l_7, A0l_8, A0l_9, A0l_10, A0l_11, A0l_12, A0l_13, A0l_14, A0l_15, A0l_16, A0l_17, A0l_18, A0l_19, A0l_20, A0l_21, A0l_22, A0l_23, A0l_24, A0l_25, A0l_26, A0l_27, A0l_28, B0l_0, B0l_1, B0l_2, B0l_3, B0l_4]
        refine ⟨?_, ?_⟩ <;> simp only [ou_a, setA_len, put_len, put_tot, pad_0, tot_nil, List.length_nil, List.length_cons, A0l_0, A0l_1, A0l_2, A0l_3, A0l_4, A0l_5, A0l_6, A0l_7, A0l_8, A0l_9, A0l_10, A0l_11, A0l_12, A0l_13, A0l_14, A0l_15, A0l_16, A0l_17, A0l_18, A0l_19, A0l_20, A0l_21, A0l_22, A0l_23, A0l_24, A0l_25, A0l_26, A0l_27, A0l_28, B0l_0, B0l_1, B0l_2, B0l_3, B0l_4] <;> simp [setA_len, put_len, put_tot, pad_0, tot_nil, List.length_nil, List.length_cons, A0l_0, A0l_1, A0l_2, A0l_3, A0l_4, A0l_5, A0l_6, A0l_7, A0l_8, A0l_9, A0l_10, A0l_11, A0l_12, A0l_13, A0l_14, A0l_15, A0l_16, A0l_17, A0l_18, A0l_19, A0l_20, A0l_21, A0l_22, A0l_23, A0l_24, A0l_25, A0l_26, A0l_27, A0l_28, B0l_0, B0l_1, B0l_2, B0l_3, B0l_4]
  · by_cases c1 : i1 = 10
    · by_cases d1 : i2 < 0
      · simp [a1, a2, c1, d1, z22, z24, z25, z26, m9_0, m9_3, m9_4, m9_5, m9_8u, m9_9, m9_10, m9_12, m9_15, m9_16, m9_18, m9_21, m9_22, m9_24, m9_27, m9_28, m9_31, m9_32u, m9_34, m9_35, m9_36, m9_39u, m9_41, m9_43, m9_45, m9_48, m9_49, m9_50, m9_52, m9_55, m9_56, m9_59, m9_60u, m9_62, m9_63, m9_66, m9_68, m9_71, m9_72, m9_73, m9_74, m9_77, m9_80, m9_81, m9_82, m9_83, m9_86, m9_89, m9_90, m9_91, m9_92, m9_95, m9_98, m9_99, m9_100, m9_101, m9_102, m9_105, m9_106, m9_109, m9_110, m9_113, m9_114, m0_0, m0_1, m0_4, m0_5, m0_6, m0_9, m0_10, m0_11, m0_14, m0_15, m0_16, m0_19, m0_20, m0_21, m0_24, m0_25, m0_26, m0_29, m0_30, m0_31, m0_34, m0_35, m0_36, m0_39, m0_40, m0_41, m0_44, m0_45, m0_46, m0_49, m0_50, m0_51, m0_54, m0_55, m0_56, m0_59, m0_60, m0_62, m0_65, m0_66, m0_68, m0_71, m0_72, m0_74, m0_77, m0_78, m0_80, m0_83, m0_84, m0_86, m0_89, m0_90, m0_92, m0_95, m0_96, m0_98, m0_101, m0_102, m0_104, m0_107, m0_108, m0_110, m0_113, m0_114, m0_116, m0_119, m0_120, m0_128, m0_129, m0_137, m0_138, m0_146, m0_147, m0_154, m0_155, m0_162, m0_163, m0_170, m0_171, m0_179, m0_180, m0_187, m0_188, m0_195, m0_196, m0_203, m0_204, m0_211, m0_212, m0_219, m0_220, m0_227, m0_228, m0_235, m0_236, m0_243, m0_244, m0_251, m0_252, m0_259, m0_260, m0_267, m0_268, m0_275, m0_276, m0_283, m0_284, m0_292, m0_293, m0_301, m0_302, m0_310, m0_311, m0_319, m0_320, m0_328, m0_329, m0_336, m0_337, m0_344, m0_345, m0_352, m0_353, m0_360, m0_361, m0_368, m0_369, m0_376, m0_377, m0_384, m0_385, m0_393, m0_394, m0_402, m0_403u, m0_404, m0_405, m0_407, m0_410, m0_412i, m0_413, m0_414, m0_416, m0_419, m0_421i, m0_422, m0_423, m0_424, m0_427, m1_0, m1_1, m1_2, m1_5, m1_8, m1_9, m1_12, m1_15, m1_18, m1_19, m1_20, m1_21, m1_24, m1_25, m1_28, m1_29, m1_30, m1_31, m1_32, m1_33, m1_36, m1_37, m1_38, m1_41, m1_42, m1_45, m1_46, m2_0, m2_1, m2_3, m2_6, m2_7, m2_9, m2_12, m2_13, m2_15, m2_18, m2_19, m2_22, m2_23, m3_0, m3_1, m3_4, m4_0, m4_1, m4_4, m5_0, m5_1, m5_4, m5_5, m5_8, m5_9, m5_12, m5_15, m5_16, m6_0, m6_1, m6_4, m6_5, m6_8, m6_9, m6_12, m6_15, m6_16, m7_0, m7_1, m7_4, m7_5, m7_6, m7_9, m7_12, m7_13, m7_15, m7_18, m7_19, m7_20, m7_21, m7_24, m7_25, m7_26, m8_0, m8_1, m8_2, m8_5, m8_6, m8_7, m8_10, m8_11, m8_12, m8_15, m8_16, m8_17, m8_20, m8_21, m8_22, m8_25, m8_26, m8_27, m8_30, nb0, nb1, ou_a, Option.toList_some, Option.toList_none, List.nil_append, List.cons_append, getA_set2, setA_len, inB_iff, A0g_0, A0g_1, A0g_2, A0g_3, A0g_4, A0g_5, A0g_6, A0g_7, A0g_8, A0g_9, A0g_10, A0g_11, A0g_12, A0g_13, A0g_14, A0g_15, A0g_16, A0g_17, A0g_18, A0g_19, A0g_20, A0g_21, A0g_22, A0g_23, A0g_24, A0g_25, A0g_26, A0g_27, A0g_28, A0l_0, A0l_1, A0l_2, A0l_3, A0l_4, A0l_5, A0l_6, A0l_7, A0l_8, A0l_9, A0l_10, A0l_11, A0l_12, A0l_13, A0l_14, A0l_15, A0l_16, A0l_17, A0l_18, A0l_19, A0l_20, A0l_21, A0l_22, A0l_23, A0l_24, A0l_25, A0l_26, A0l_27, A0l_28, B0l_0, B0l_1, B0l_2, B0l_3, B0l_4]
        refine ⟨?_, ?_⟩ <;> simp only [ou_a, setA_len, put_len, put_tot, pad_0, tot_nil, List.length_nil, List.length_cons, A0l_0, A0l_1, A0l_2, A0l_3, A0l_4, A0l_5, A0l_6, A0l_7, A0l_8, A0l_9, A0l_10, A0l_11, A0l_12, A0l_13, A0l_14, A0l_15, A0l_16, A0l_17, A0l_18, A0l_19, A0l_20, A0l_21, A0l_22, A0l_23, A0l_24, A0l_25, A0l_26, A0l_27, A0l_28, B0l_0, B0l_1, B0l_2, B0l_3, B0l_4] <;> simp [setA_len, put_len, put_tot, pad_0, tot_nil, List.length_nil, List.length_cons, A0l_0, A0l_1, A0l_2, A0l_3, A0l_4, A0l_5, A0l_6, A0l_7, A0l_8, A0l_9, A0l_10, A0l_11, A0l_12, A0l_13, A0l_14, A0l_15, A0l_16, A0l_17, A0l_18, A0l_19, A0l_20, A0l_21, A0l_22, A0l_23, A0l_24, A0l_25, A0l_26, A0l_27, A0l_28, B0l_0, B0l_1, B0l_2, B0l_3, B0l_4]
      · simp [a1, a2, c1, d1, z22, z24, z25, z26, m9_0, m9_3, m9_4, m9_5, m9_8u, m9_9, m9_10, m9_12, m9_15, m9_16, m9_18, m9_21, m9_22, m9_24, m9_27, m9_28, m9_31, m9_32u, m9_34, m9_35, m9_36, m9_39u, m9_41, m9_43, m9_45, m9_48, m9_49, m9_50, m9_52, m9_55, m9_56, m9_59, m9_60u, m9_62, m9_63, m9_66, m9_68, m9_71, m9_72, m9_73, m9_74, m9_77, m9_80, m9_81, m9_82, m9_83, m9_86, m9_89, m9_90, m9_91, m9_92, m9_95, m9_98, m9_99, m9_100, m9_101, m9_102, m9_105, m9_106, m9_109, m9_110, m9_113, m9_114, m0_0, m0_1, m0_4, m0_5, m0_6, m0_9, m0_10, m0_11, m0_14, m0_15, m0_16, m0_19, m0_20, m0_21, m0_24, m0_25, m0_26, m0_29, m0_30, m0_31, m0_34, m0_35, m0_36, m0_39, m0_40, m0_41, m0_44, m0_45, m0_46, m0_49, m0_50, m0_51, m0_54, m0_55, m0_56, m0_59, m0_60, m0_62, m0_65, m0_66, m0_68, m0_71, m0_72, m0_74, m0_77, m0_78, m0_80, m0_83, m0_84, m0_86, m0_89, m0_90, m0_92, m0_95, m0_96, m0_98, m0_101, m0_102, m0_104, m0_107, m0_108, m0_110, m0_113, m0_114, m0_116, m0_119, m0_120, m0_128, m0_129, m0_137, m0_138, m0_146, m0_147, m0_154, m0_155, m0_162, m0_163, m0_170, m0_171, m0_179, m0_180, m0_187, m0_188, m0_195, m0_196, m0_203, m0_204, m0_211, m0_212, m0_219, m0_220, m0_227, m0_228, m0_235, m0_236, m0_243, m0_244, m0_251, m0_252, m0_259, m0_260, m0_267, m0_268, m0_275, m0_276, m0_283, m0_284, m0_292, m0_293, m0_301, m0_302, m0_310, m0_311, m0_319, m0_320, m0_328, m0_329, m0_336, m0_337, m0_344, m0_345, m0_352, m0_353, m0_360, m0_361, m0_368, m0_369, m0_376, m0_377, m0_384, m0_385, m0_393, m0_394, m0_402, m0_403u, m0_404, m0_405, m0_407, m0_410, m0_412i, m0_413, m0_414, m0_416, m0_419, m0_421i, m0_422, m0_423, m0_424, m0_427, m1_0, m1_1, m1_2, m1_5, m1_8, m1_9, m1_12, m1_15, m1_18, m1_19, m1_20, m1_21, m1_24, m1_25, m1_28, m1_29, m1_30, m1_31, m1_32, m1_33, m1_36, m1_37, m1_38, m1_41, m1_42, m1_45, m1_46, m2_0, m2_1, m2_3, m2_6, m2_7, m2_9, m2_12, m2_13, m2_15, m2_18, m2_19, m2_22, m2_23, m3_0, m3_1, m3_4, m4_0, m4_1, m4_4, m5_0, m5_1, m5_4, m5_5, m5_8, m5_9, m5_12, m5_15, m5_16, m6_0, m6_1, m6_4, m6_5, m6_8, m6_9, m6_12, m6_15, m6_16, m7_0, m7_1, m7_4, m7_5, m7_6, m7_9, m7_12, m7_13, m7_15, m7_18, m7_19, m7_20, m7_21, m7_24, m7_25, m7_26, m8_0, m8_1, m8_2, m8_5, m8_6, m8_7, m8_10, m8_11, m8_12, m8_15, m8_16, m8_17, m8_20, m8_21, m8_22, m8_25, m8_26, m8_27, m8_30, nb0, nb1, ou_a, Option.toList_some, Option.toList_none, List.nil_append, List.cons_append, getA_set2, setA_len, inB_iff, A0g_0, A0g_1, A0g_2, A0g_3, A0g_4, A0g_5, A0g_6, A0g_7, A0g_8, A0g_9, A0g_10, A0g_11, A0g_12, A0g_13, A0g_14, A0g_15, A0g_16, A0g_17, A0g_18, A0g_19, A0g_20, A0g_21, A0g_22, A0g_23, A0g_24, A0g_25, A0g_26, A0g_27, A0g_28, A0l_0, A0l_1, A0l_2, A0l_3, A0l_4, A0l_5, A0l_6, A0l_7, A0l_8, A0l_9, A0l_10, A0l_11, A0l_12, A0l_13, A0l_14, A0l_15, A0l_16, A0l_17, A0l_18, A0l_19, A0l_20, A0l_21, A0l_22, A0l_23, A0l_24, A0l_25, A0l_26, A0l_27, A0l_28, B0l_0, B0l_1, B0l_2, B0l_3, B0l_4]
        refine ⟨?_, ?_⟩ <;> simp only [ou_a, setA_len, put_len, put_tot, pad_0, tot_nil, List.length_nil, List.length_cons, A0l_0, A0l_1, A0l_2, A0l_3, A0l_4, A0l_5, A0l_6, A0l_7, A0l_8, A0l_9, A0l_10, A0l_11, A0l_12, A0l_13, A0l_14, A0l_15, A0l_16, A0l_17, A0l_18, A0l_19, A0l_20, A0l_21, A0l_22, A0l_23, A0l_24, A0l_25, A0l_26, A0l_27, A0l_28, B0l_0, B0l_1, B0l_2, B0l_3, B0l_4] <;> simp [setA_len, put_len, put_tot, pad_0, tot_nil, List.length_nil, List.length_cons, A0l_0, A0l_1, A0l_2, A0l_3, A0l_4, A0l_5, A0l_6, A0l_7, A0l_8, A0l_9, A0l_10, A0l_11, A0l_12, A0l_13, A0l_14, A0l_15, A0l_16, A0l_17, A0l_18, A0l_19, A0l_20, A0l_21, A0l_22, A0l_23, A0l_24, A0l_25, A0l_26, A0l_27, A0l_28, B0l_0, B0l_1, B0l_2, B0l_3, B0l_4]
    by_cases c2 : i1 < 32
    · by_cases d1 : i2 < 0
      · simp [a1, a2, c1, c2, d1, z22, z24, z25, z26, m9_0, m9_3, m9_4, m9_5, m9_8u, m9_9, m9_10, m9_12, m9_15, m9_16, m9_18, m9_21, m9_22, m9_24, m9_27, m9_28, m9_31, m9_32u, m9_34, m9_35, m9_36, m9_39u, m9_41, m9_43, m9_45, m9_48, m9_49, m9_50, m9_52, m9_55, m9_56, m9_59, m9_60u, m9_62, m9_63, m9_66, m9_68, m9_71, m9_72, m9_73, m9_74, m9_77, m9_80, m9_81, m9_82, m9_83, m9_86, m9_89, m9_90, m9_91, m9_92, m9_95, m9_98, m9_99, m9_100, m9_101, m9_102, m9_105, m9_106, m9_109, m9_110, m9_113, m9_114, m0_0, m0_1, m0_4, m0_5, m0_6, m0_9, m0_10, m0_11, m0_14, m0_15, m0_16, m0_19, m0_20, m0_21, m0_24, m0_25, m0_26, m0_29, m0_30, m0_31, m0_34, m0_35, m0_36, m0_39, m0_40, m0_41, m0_44, m0_45, m0_46, m0_49, m0_50, m0_51, m0_54, m0_55, m0_56, m0_59, m0_60, m0_62, m0_65, m0_66, m0_68, m0_71, m0_72, m0_74, m0_77, m0_78, m0_80, m0_83, m0_84, m0_86, m0_89, m0_90, m0_92, m0_95, m0_96, m0_98, m0_101, m0_102, m0_104, m0_107, m0_108, m0_110, m0_113, m0_114, m0_116, m0_119, m0_120, m0_128, m0_129, m0_137, m0_138, m0_146, m0_147, m0_154, m0_155, m0_162, m0_163, m0_170, m0_171, m0_179, m0_180, m0_187, m0_188, m0_195, m0_196, m0_203, m0_204, m0_211, m0_212, m0_219, m0_220, m0_227, m0_228, m0_235, m0_236, m0_243, m0_244, m0_251, m0_252, m0_259, m0_260, m0_267, m0_268, m0_275, m0_276, m0_283, m0_284, m0_292, m0_293, m0_301, m0_302, m0_310, m0_311, m0_319, m0_320, m0_328, m0_329, m0_336, m0_337, m0_344, m0_345, m0_352, m0_353, m0_360, m0_361, m0_368, m0_369, m0_376, m0_377, m0_384, m0_385, m0_393, m0_394, m0_402, m0_403u, m0_404, m0_405, m0_407, m0_410, m0_412i, m0_413, m0_414, m0_416, m0_419, m0_421i, m0_422, m0_423, m0_424, m0_427, m1_0, m1_1, m1_2, m1_5, m1_8, m1_9, m1_12, m1_15, m1_18, m1_19, m1_20, m1_21, m1_24, m1_25, m1_28, m1_29, m1_30, m1_31, m1_32, m1_33, m1_36, m1_37, m1_38, m1_41, m1_42, m1_45, m1_46, m2_0, m2_1, m2_3, m2_6, m2_7, m2_9, m2_12, m2_13, m2_15, m2_18, m2_19, m2_22, m2_23, m3_0, m3_1, m3_4, m4_0, m4_1, m4_4, m5_0, m5_1, m5_4, m5_5, m5_8, m5_9, m5_12, m5_15, m5_16, m6_0, m6_1, m6_4, m6_5, m6_8, m6_9, m6_12, m6_15, m6_16, m7_0, m7_1, m7_4, m7_5, m7_6, m7_9, m7_12, m7_13, m7_15, m7_18, m7_19, m7_20, m7_21, m7_24, m7_25, m7_26, m8_0, m8_1, m8_2, m8_5, m8_6, m8_7, m8_10, m8_11, m8_12, m8_15, m8_16, m8_17, m8_20, m8_21, m8_22, m8_25, m8_26, m8_27, m8_30, nb0, nb1, ou_a, Option.toList_some, Option.toList_none, List.nil_append, List.cons_append, getA_set2, setA_len, inB_iff, A0g_0, A0g_1, A0g_2, A0g_3, A0g_4, A0g_5, A0g_6, A0g_7, A0g_8, A0g_9, A0g_10, A0g_11, A0g_12, A0g_13, A0g_14, A0g_15, A0g_16, A0g_17, A0g_18, A0g_19, A0g_20, A0g_21, A0g_22, A0g_23, A0g_24, A0g_25, A0g_26, A0g_27, A0g_28, A0l_0, A0l_1, A0l_2, A0l_3, A0l_4, A0l_5, A0l_6, A0l_7, A0l_8, A0l_9, A0l_10, A0l_11, A0l_12, A0l_13, A0l_14, A0l_15, A0l_16, A0l_17, A0l_18, A0l_19, A0l_20, A0l_21, A0l_22, A0l_23, A0l_24, A0l_25, A0l_26, A0l_27, A0l_28, B0l_0, B0l_1, B0l_2, B0l_3, B0l_4]
        refine ⟨?_, ?_⟩ <;> simp only [ou_a, setA_len, put_len, put_tot, pad_0, tot_nil, List.length_nil, List.length_cons, A0l_0, A0l_1, A0l_2, A0l_3, A0l_4, A0l_5, A0l_6, A0l_7, A0l_8, A0l_9, A0l_10, A0l_11, A0l_12, A0l_13, A0l_14, A0l_15, A0l_16, A0l_17, A0l_18, A0l_19, A0l_20, A0l_21, A0l_22, A0l_23, A0l_24, A0l_25, A0l_26, A0l_27, A0l_28, B0l_0, B0l_1, B0l_2, B0l_3, B0l_4] <;> simp [setA_len, put_len, put_tot, pad_0, tot_nil, List.length_nil, List.length_cons, A0l_0, A0l_1, A0l_2, A0l_3, A0l_4, A0l_5, A0l_6, A0l_7, A0l_8, A0l_9, A0l_10, A0l_11, A0l_12, A0l_13, A0l_14, A0l_15, A0l_16, A0l_17, A0l_18, A0l_19, A0l_20, A0l_21, A0l_22, A0l_23, A0l_24, A0l_25, A0l_26, A0l_27, A0l_28, B0l_0, B0l_1, B0l_2, B0l_3, B0l_4]
      · simp [a1, a2, c1, c2, d1, z22, z24, z25, z26, m9_0, m9_3, m9_4, m9_5, m9_8u, m9_9, m9_10, m9_12, m9_15, m9_16, m9_18, m9_21, m9_22, m9_24, m9_27, m9_28, m9_31, m9_32u, m9_34, m9_35, m9_36, m9_39u, m9_41, m9_43, m9_45, m9_48, m9_49, m9_50, m9_52, m9_55, m9_56, m9_59, m9_60u, m9_62, m9_63, m9_66, m9_68, m9_71, m9_72, m9_73, m9_74, m9_77, m9_80, m9_81, m9_82, m9_83, m9_86, m9_89, m9_90, m9_91, m9_92, m9_95, m9_98, m9_99, m9_100, m9_101, m9_102, m9_105, m9_106, m9_109, m9_110, m9_113, m9_114, m0_0, m0_1, m0_4, m0_5, m0_6, m0_9, m0_10, m0_11, m0_14, m0_15, m0_16, m0_19, m0_20, m0_21, m0_24, m0_25, m0_26, m0_29, m0_30, m0_31, m0_34, m0_35, m0_36, m0_39, m0_40, m0_41, m0_44, m0_45, m0_46, m0_49, m0_50, m0_51, m0_54, m0_55, m0_56, m0_59, m0_60, m0_62, m0_65, m0_66, m0_68, m0_71, m0_72, m0_74, m0_77, m0_78, m0_80, m0_83, m0_84, m0_86, m0_89, m0_90, m0_92, m0_95, m0_96, m0_98, m0_101, m0_102, m0_104, m0_107, m0_108, m0_110, m0_113, m0_114, m0_116, m0_119, m0_120, m0_128, m0_129, m0_137, m0_138, m0_146, m0_147, m0_154, m0_155, m0_162, m0_163, m0_170, m0_171, m0_179, m0_180, m0_187, m0_188, m0_195, m0_196, m0_203, m0_204, m0_211, m0_212, m0_219, m0_220, m0_227, m0_228, m0_235, m0_236, m0_243, m0_244, m0_251, m0_252, m0_259, m0_260, m0_267, m0_268, m0_275, m0_276, m0_283, m0_284, m0_292, m0_293, m0_301, m0_302, m0_310, m0_311, m0_319, m0_320, m0_328, m0_329, m0_336, m0_337, m0_344, m0_345, m0_352, m0_353, m0_360, m0_361, m0_368, m0_369, m0_376, m0_377, m0_384, m0_385, m0_393, m0_394, m0_402, m0_403u, m0_404, m0_405, m0_407, m0_410, m0_412i, m0_413, m0_414, m0_416, m0_419, m0_421i, m0_422, m0_423, m0_424, m0_427, m1_0, m1_1, m1_2, m1_5, m1_8, m1_9, m1_12, m1_15, m1_18, m1_19, m1_20, m1_21, m1_24, m1_25, m1_28, m1_29, m1_30, m1_31, m1_32, m1_33, m1_36, m1_37, m1_38, m1_41, m1_42, m1_45, m1_46, m2_0, m2_1, m2_3, m2_6, m2_7, m2_9, m2_12, m2_13, m2_15, m2_18, m2_19, m2_22, m2_23, m3_0, m3_1, m3_4, m4_0, m4_1, m4_4, m5_0, m5_1, m5_4, m5_5, m5_8, m5_9, m5_12, m5_15, m5_16, m6_0, m6_1, m6_4, m6_5, m6_8, m6_9, m6_12, m6_15, m6_16, m7_0, m7_1, m7_4, m7_5, m7_6, m7_9, m7_12, m7_13, m7_15, m7_18, m7_19, m7_20, m7_21, m7_24, m7_25, m7_26, m8_0, m8_1, m8_2, m8_5, m8_6, m8_7, m8_10, m8_11, m8_12, m8_15, m8_16, m8_17, m8_20, m8_21, m8_22, m8_25, m8_26, m8_27, m8_30, nb0, nb1, ou_a, Option.toList_some, Option.toList_none, List.nil_append, List.cons_append, getA_set2, setA_len, inB_iff, A0g_0, A0g_1, A0g_2, A0g_3, A0g_4, A0g_5, A0g_6, A0g_7, A0g_8, A0g_9, A0g_10, A0g_11, A0g_12, A0g_13, A0g_14, A0g_15, A0g_16, A0g_17, A0g_18, A0g_19, A0g_20, A0g_21, A0g_22, A0g_23, A0g_24, A0g_25, A0g_26, A0g_27, A0g_28, A0l_0, A0l_1, A0l_2, A0l_3, A0l_4, A0l_5, A0l_6, A0l_7, A0l_8, A0l_9, A0l_10, A0l_11, A0l_12, A0l_13, A0l_14, A0l_15, A0l_16, A0l_17, A0l_18, A0l_19, A0l_20, A0l_21, A0l_22, A0l_23, A0l_24, A0l_25, A0l_26, A0l_27, A0l_28, B0l_0, B0l_1, B0l_2, B0l_3, B0l_4]
        refine ⟨?_, ?_⟩ <;> simp only [ou_a, setA_len, put_len, put_tot, pad_0, tot_nil, List.length_nil, List.length_cons, A0l_0, A0l_1, A0l_2, A0l_3, A0l_4, A0l_5, A0l_6, A0l_7, A0l_8, A0l_9, A0l_10, A0l_11, A0l_12, A0l_13, A0l_14, A0l_15, A0l_16, A0l_17, A0l_18, A0l_19, A0l_20, A0l_21, A0l_22, A0l_23, A0l_24, A0l_25, A0l_26, A0l_27, A0l_28, B0l_0, B0l_1, B0l_2, B0l_3, B0l_4] <;> simp [setA_len, put_len, put_tot, pad_0, tot_nil, List.length_nil, List.length_cons, A0l_0, A0l_1, A0l_2, A0l_3, A0l_4, A0l_5, A0l_6, A0l_7, A0l_8, A0l_9, A0l_10, A0l_11, A0l_12, A0l_13, A0l_14, A0l_15, A0l_16, A0l_17, A0l_18, A0l_19, A0l_20, A0l_21, A0l_22, A0l_23, A0l_24, A0l_25, A0l_26, A0l_27, A0l_28, B0l_0, B0l_1, B0l_2, B0l_3, B0l_4]
    by_cases c3 : 126 < i1
    · by_cases d1 : i2 < 0
      · simp [a1, a2, c1, c2, c3, d1, z22, z24, z25, z26, m9_0, m9_3, m9_4, m9_5, m9_8u, m9_9, m9_10, m9_12, m9_15, m9_16, m9_18, m9_21, m9_22, m9_24, m9_27, m9_28, m9_31, m9_32u, m9_34, m9_35, m9_36, m9_39u, m9_41, m9_43, m9_45, m9_48, m9_49, m9_50, m9_52, m9_55, m9_56, m9_59, m9_60u, m9_62, m9_63, m9_66, m9_68, m9_71, m9_72, m9_73, m9_74, m9_77, m9_80, m9_81, m9_82, m9_83, m9_86, m9_89, m9_90, m9_91, m9_92, m9_95, m9_98, m9_99, m9_100, m9_101, m9_102, m9_105, m9_106, m9_109, m9_110, m9_113, m9_114, m0_0, m0_1, m0_4, m0_5, m0_6, m0_9, m0_10, m0_11, m0_14, m0_15, m0_16, m0_19, m0_20, m0_21, m0_24, m0_25, m0_26, m0_29, m0_30, m0_31, m0_34, m0_35, m0_36, m0_39, m0_40, m0_41, m0_44, m0_45, m0_46, m0_49, m0_50, m0_51, m0_54, m0_55, m0_56, m0_59, m0_60, m0_62, m0_65, m0_66, m0_68, m0_71, m0_72, m0_74, m0_77, m0_78, m0_80, m0_83, m0_84, m0_86, m0_89, m0_90, m0_92, m0_95, m0_96, m0_98, m0_101, m0_102, m0_104, m0_107, m0_108, m0_110, m0_113, m0_114, m0_116, m0_119, m0_120, m0_128, m0_129, m0_137, m0_138, m0_146, m0_147, m0_154, m0_155, m0_162, m0_163, m0_170, m0_171, m0_179, m0_180, m0_187, m0_188, m0_195, m0_196, m0_203, m0_204, m0_211, m0_212, m0_219, m0_220, m0_227, m0_228, m0_235, m0_236, m0_243, m0_244, m0_251, m0_252, m0_259, m0_260, m0_267, m0_268, m0_275, m0_276, m0_283, m0_284, m0_292, m0_293, m0_301, m0_302, m0_310, m0_311, m0_319, m0_320, m0_328, m0_329, m0_336, m0_337, m0_344, m0_345, m0_352, m0_353, m0_360, m0_361, m0_368, m0_369, m0_376, m0_377, m0_384, m0_385, m0_393, m0_394, m0_402, m0_403u, m0_404, m0_405, m0_407, m0_410, m0_412i, m0_413, m0_414, m0_416, m0_419, m0_421i, m0_422, m0_423, m0_424, m0_427, m1_0, m1_1, m1_2, m1_5, m1_8, m1_9, m1_12, m1_15, m1_18, m1_19, m1_20, m1_21, m1_24, m1_25, m1_28, m1_29, m1_30, m1_31, m1_32, m1_33, m1_36, m1_37, m1_38, m1_41, m1_42, m1_45, m1_46, m2_0, m2_1, m2_3, m2_6, m2_7, m2_9, m2_12, m2_13, m2_15, m2_18, m2_19, m2_22, m2_23, m3_0, m3_1, m3_4, m4_0, m4_1, m4_4, m5_0, m5_1, m5_4, m5_5, m5_8, m5_9, m5_12, m5_15, m5_16, m6_0, m6_1, m6_4, m6_5, m6_8, m6_9, m6_12, m6_15, m6_16, m7_0, m7_1, m7_4, m7_5, m7_6, m7_9, m7_12, m7_13, m7_15, m7_18, m7_19, m7_20, m7_21, m7_24, m7_25, m7_26, m8_0, m8_1, m8_2, m8_5, m8_6, m8_7, m8_10, m8_11, m8_12, m8_15, m8_16, m8_17, m8_20, m8_21, m8_22, m8_25, m8_26, m8_27, m8_30, nb0, nb1, ou_a, Option.toList_some, Option.toList_none, List.nil_append, List.cons_append, getA_set2, setA_len, inB_iff, A0g_0, A0g_1, A0g_2, A0g_3, A0g_4, A0g_5, A0g_6, A0g_7, A0g_8, A0g_9, A0g_10, A0g_11, A0g_12, A0g_13, A0g_14, A0g_15, A0g_16, A0g_17, A0g_18, A0g_19, A0g_20, A0g_21, A0g_22, A0g_23, A0g_24, A0g_25, A0g_26, A0g_27, A0g_28, A0l_0, A0l_1, A0l_2, A0l_3, A0l_4, A0l_5, A0l_6, A0l_7, A0l_8, A0l_9, A0l_10, A0l_11, A0l_12, A0l_13, A0l_14, A0l_15, A0l_16, A0l_17, A0l_18, A0l_19, A0l_20, A0l_21, A0l_22, A0l_23, A0l_24, A0l_25, A0l_26, A0l_27, A0l_28, B0l_0, B0l_1, B0l_2, B0l_3, B0l_4]
        refine ⟨?_, ?_⟩ <;> simp only [ou_a, setA_len, put_len, put_tot, pad_0, tot_nil, List.length_nil, List.length_cons, A0l_0, A0l_1, A0l_2, A0l_3, A0l_4, A0l_5, A0l_6, A0l_7, A0l_8, A0l_9, A0l_10, A0l_11, A0l_12, A0l_13, A0l_14, A0l_15, A0l_16, A0l_17, A0l_18, A0l_19, A0l_20, A0l_21, A0l_22, A0l_23, A0l_24, A0l_25, A0l_26, A0l_27, A0l_28, B0l_0, B0l_1, B0l_2, B0l_3, B0l_4] <;> simp [setA_len, put_len, put_tot, pad_0, tot_nil, List.length_nil, List.length_cons, A0l_0, A0l_1, A0l_2, A0l_3, A0l_4, A0l_5, A0l_6, A0l_7, A0l_8, A0l_9, A0l_10, A0l_11, A0l_12, A0l_13, A0l_14, A0l_15, A0l_16, A0l_17, A0l_18, A0l_19, A0l_20, A0l_21, A0l_22, A0l_23, A0l_24, A0l_25, A0l_26, A0l_27, A0l_28, B0l_0, B0l_1, B0l_2, B0l_3, B0l_4]
      · simp [a1, a2, c1, c2, c3, d1, z22, z24, z25, z26, m9_0, m9_3, m9_4, m9_5, m9_8u, m9_9, m9_10, m9_12, m9_15, m9_16, m9_18, m9_21, m9_22, m9_24, m9_27, m9_28, m9_31, m9_32u, m9_34, m9_35, m9_36, m9_39u, m9_41, m9_43, m9_45, m9_48, m9_49, m9_50, m9_52, m9_55, m9_56, m9_59, m9_60u, m9_62, m9_63, m9_66, m9_68, m9_71, m9_72, m9_73, m9_74, m9_77, m9_80, m9_81, m9_82, m9_83, m9_86, m9_89, m9_90, m9_91, m9_92, m9_95, m9_98, m9_99, m9_100, m9_101, m9_102, m9_105, m9_106, m9_109, m9_110, m9_113, m9_114, m0_0, m0_1, m0_4, m0_5, m0_6, m0_9, m0_10, m0_11, m0_14, m0_15, m0_16, m0_19, m0_20, m0_21, m0_24, m0_25, m0_26, m0_29, m0_30, m0_31, m0_34, m0_35, m0_36, m0_39, m0_40, m0_41, m0_44, m0_45, m0_46, m0_49, m0_50, m0_51, m0_54, m0_55, m0_56, m0_59, m0_60, m0_62, m0_65, m0_66, m0_68, m0_71, m0_72, m0_74, m0_77, m0_78, m0_80, m0_83, m0_84, m0_86, m0_89, m0_90, m0_92, m0_95, m0_96, m0_98, m0_101, m0_102, m0_104, m0_107, m0_108, m0_110, m0_113, m0_114, m0_116, m0_119, m0_120, m0_128, m0_129, m0_137, m0_138, m0_146, m0_147, m0_154, m0_155, m0_162, m0_163, m0_170, m0_171, m0_179, m0_180, m0_187, m0_188, m0_195, m0_196, m0_203, m0_204, m0_211, m0_212, m0_219, m0_220, m0_227, m0_228, m0_235, m0_236, m0_243, m0_244, m0_251, m0_252, m0_259, m0_260, m0_267, m0_268, m0_275, m0_276, m0_283, m0_284, m0_292, m0_293, m0_301, m0_302, m0_310, m0_311, m0_319, m0_320, m0_328, m0_329, m0_336, m0_337, m0_344, m0_345, m0_352, m0_353, m0_360, m0_361, m0_368, m0_369, m0_376, m0_377, m0_384, m0_385, m0_393, m0_394, m0_402, m0_403u, m0_404, m0_405, m0_407, m0_410, m0_412i, m0_413, m0_414, m0_416, m0_419, m0_421i, m0_422, m0_423, m0_424, m0_427, m1_0, m1_1, m1_2, m1_5, m1_8, m1_9, m1_12, m1_15, m1_18, m1_19, m1_20, m1_21, m1_24, m1_25, m1_28, m1_29, m1_30, m1_31, m1_32, m1_33, m1_36, m1_37, m1_38, m1_41, m1_42, m1_45, m1_46, m2_0, m2_1, m2_3, m2_6, m2_7, m2_9, m2_12, m2_13, m2_15, m2_18, m2_19, m2_22, m2_23, m3_0, m3_1, m3_4, m4_0, m4_1, m4_4, m5_0, m5_1, m5_4, m5_5, m5_8, m5_9, m5_12, m5_15, m5_16, m6_0, m6_1, m6_4, m6_5, m6_8, m6_9, m6_12, m6_15, m6_16, m7_0, m7_1, m7_4, m7_5, m7_6, m7_9, m7_12, m7_13, m7_15, m7_18, m7_19, m7_20, m7_21, m7_24, m7_25, m7_26, m8_0, m8_1, m8_2, m8_5, m8_6, m8_7, m8_10, m8_11, m8_12, m8_15, m8_16, m8_17, m8_20, m8_21, m8_22, m8_25, m8_26, m8_27, m8_30, nb0, nb1, ou_a, Option.toList_some, Option.toList_none, List.nil_append, List.cons_append, getA_set2, setA_len, inB_iff, A0g_0, A0g_1, A0g_2, A0g_3, A0g_4, A0g_5, A0g_6, A0g_7, A0g_8, A0g_9, A0g_10, A0g_11, A0g_12, A0g_13, A0g_14, A0g_15, A0g_16, A0g_17, A0g_18, A0g_19, A0g_20, A0g_21, A0g_22, A0g_23, A0g_24, A0g_25, A0g_26, A0g_27, A0g_28, A0l_0, A0l_1, A0l_2, A0l_3, A0l_4, A0l_5, A0l_6, A0l_7, A0l_8, A0l_9, A0l_10, A0l_11, A0l_12, A0l_13, A0l_14, A0l_15, A0l_16, A0l_17, A0l_18, A0l_19, A0l_20, A0l_21, A0l_22, A0l_23, A0l_24, A0l_25, A0l_26, A0l_27, A0l_28, B0l_0, B0l_1, B0l_2, B0l_3, B0l_4]
        refine ⟨?_, ?_⟩ <;> simp only [ou_a, setA_len, put_len, put_tot, pad_0, tot_nil, List.length_nil, List.length_cons, A0l_0, A0l_1, A0l_2, A0l_3, A0l_4, A0l_5, A0l_6, A0l_7, A0l_8, A0l_9, A0l_10, A0l_11, A0l_12, A0l_13, A0l_14, A0l_15, A0l_16, A0l_17, A0l_18, A0l_19, A0l_20, A0l_21, A0l_22, A0l_23, A0l_24, A0l_25, A0l_26, A0l_27, A0l_28, B0l_0, B0l_1, B0l_2, B0l_3, B0l_4] <;> simp [setA_len, put_len, put_tot, pad_0, tot_nil, List.length_nil, List.length_cons, A0l_0, A0l_1, A0l_2, A0l_3, A0l_4, A0l_5, A0l_6, A0l_7, A0l_8, A0l_9, A0l_10, A0l_11, A0l_12, A0l_13, A0l_14, A0l_15, A0l_16, A0l_17, A0l_18, A0l_19, A0l_20, A0l_21, A0l_22, A0l_23, A0l_24, A0l_25, A0l_26, A0l_27, A0l_28, B0l_0, B0l_1, B0l_2, B0l_3, B0l_4]
    · by_cases d1 : i2 < 0
      · simp [a1, a2, c1, c2, c3, d1, z22, z24, z25, z26, m9_0, m9_3, m9_4, m9_5, m9_8u, m9_9, m9_10, m9_12, m9_15, m9_16, m9_18, m9_21, m9_22, m9_24, m9_27, m9_28, m9_31, m9_32u, m9_34, m9_35, m9_36, m9_39u, m9_41, m9_43, m9_45, m9_48, m9_49, m9_50, m9_52, m9_55, m9_56, m9_59, m9_60u, m9_62, m9_63, m9_66, m9_68, m9_71, m9_72, m9_73, m9_74, m9_77, m9_80, m9_81, m9_82, m9_83, m9_86, m9_89, m9_90, m9_91, m9_92, m9_95, m9_98, m9_99, m9_100, m9_101, m9_102, m9_105, m9_106, m9_109, m9_110, m9_113, m9_114, m0_0, m0_1, m0_4, m0_5, m0_6, m0_9, m0_10, m0_11, m0_14, m0_15, m0_16, m0_19, m0_20, m0_21, m0_24, m0_25, m0_26, m0_29, m0_30, m0_31, m0_34, m0_35, m0_36, m0_39, m0_40, m0_41, m0_44, m0_45, m0_46, m0_49, m0_50, m0_51, m0_54, m0_55, m0_56, m0_59, m0_60, m0_62, m0_65, m0_66, m0_68, m0_71, m0_72, m0_74, m0_77, m0_78, m0_80, m0_83, m0_84, m0_86, m0_89, m0_90, m0_92, m0_95, m0_96, m0_98, m0_101, m0_102, m0_104, m0_107, m0_108, m0_110, m0_113, m0_114, m0_116, m0_119, m0_120, m0_128, m0_129, m0_137, m0_138, m0_146, m0_147, m0_154, m0_155, m0_162, m0_163, m0_170, m0_171, m0_179, m0_180, m0_187, m0_188, m0_195, m0_196, m0_203, m0_204, m0_211, m0_212, m0_219, m0_220, m0_227, m0_228, m0_235, m0_236, m0_243, m0_244, m0_251, m0_252, m0_259, m0_260, m0_267, m0_268, m0_275, m0_276, m0_283, m0_284, m0_292, m0_293, m0_301, m0_302, m0_310, m0_311, m0_319, m0_320, m0_328, m0_329, m0_336, m0_337, m0_344, m0_345, m0_352, m0_353, m0_360, m0_361, m0_368, m0_369, m0_376, m0_377, m0_384, m0_385, m0_393, m0_394, m0_402, m0_403u, m0_404, m0_405, m0_407, m0_410, m0_412i, m0_413, m0_414, m0_416, m0_419, m0_421i, m0_422, m0_423, m0_424, m0_427, m1_0, m1_1, m1_2, m1_5, m1_8, m1_9, m1_12, m1_15, m1_18, m1_19, m1_20, m1_21, m1_24, m1_25, m1_28, m1_29, m1_30, m1_31, m1_32, m1_33, m1_36, m1_37, m1_38, m1_41, m1_42, m1_45, m1_46, m2_0, m2_1, m2_3, m2_6, m2_7, m2_9, m2_12, m2_13, m2_15, m2_18, m2_19, m2_22, m2_23, m3_0, m3_1, m3_4, m4_0, m4_1, m4_4, m5_0, m5_1, m5_4, m5_5, m5_8, m5_9, m5_12, m5_15, m5_16, m6_0, m6_1, m6_4, m6_5, m6_8, m6_9, m6_12, m6_15, m6_16, m7_0, m7_1, m7_4, m7_5, m7_6, m7_9, m7_12, m7_13, m7_15, m7_18, m7_19, m7_20, m7_21, m7_24, m7_25, m7_26, m8_0, m8_1, m8_2, m8_5, m8_6, m8_7, m8_10, m8_11, m8_12, m8_15, m8_16, m8_17, m8_20, m8_21, m8_22, m8_25, m8_26, m8_27, m8_30, nb0, nb1, ou_a, Option.toList_some, Option.toList_none, List.nil_append, List.cons_append, getA_set2, setA_len, inB_iff, A0g_0, A0g_1, A0g_2, A0g_3, A0g_4, A0g_5, A0g_6, A0g_7, A0g_8, A0g_9, A0g_10, A0g_11, A0g_12, A0g_13, A0g_14, A0g_15, A0g_16, A0g_17, A0g_18, A0g_19, A0g_20, A0g_21, A0g_22, A0g_23, A0g_24, A0g_25, A0g_26, A0g_27, A0g_28, A0l_0, A0l_1, A0l_2, A0l_3, A0l_4, A0l_5, A0l_6, A0l_7, A0l_8, A0l_9, A0l_10, A0l_11, A0l_12, A0l_13, A0l_14, A0l_15, A0l_16, A0l_17, A0l_18, A0l_19, A0l_20, A0l_21, A0l_22, A0l_23, A0l_24, A0l_25, A0l_26, A0l_27, A0l_28, B0l_0, B0l_1, B0l_2, B0l_3, B0l_4]
        refine ⟨?_, ?_⟩ <;> simp only [ou_a, setA_len, put_len, put_tot, pad_0, tot_nil, List.length_nil, List.length_cons, A0l_0, A0l_1, A0l_2, A0l_3, A0l_4, A0l_5, A0l_6, A0l_7, A0l_8, A0l_9, A0l_10, A0l_11, A0l_12, A0l_13, A0l_14, A0l_15, A0l_16, A0l_17, A0l_18, A0l_19, A0l_20, A0l_21, A0l_22, A0l_23, A0l_24, A0l_25, A0l_26, A0l_27, A0l_28, B0l_0, B0l_1, B0l_2, B0l_3, B0l_4] <;> simp [setA_len, put_len, put_tot, pad_0, tot_nil, List.length_nil, List.length_cons, A0l_0, A0l_1, A0l_2, A0l_3, A0l_4, A0l_5, A0l_6, A0l_7, A0l_8, A0l_9, A0l_10, A0l_11, A0l_12, A0l_13, A0l_14, A0l_15, A0l_16, A0l_17, A0l_18, A0l_19, A0l_20, A0l_21, A0l_22, A0l_23, A0l_24, A0l_25, A0l_26, A0l_27, A0l_28, B0l_0, B0l_1, B0l_2, B0l_3, B0l_4]
      · simp [a1, a2, c1, c2, c3, d1, z22, z24, z25, z26, m9_0, m9_3, m9_4, m9_5, m9_8u, m9_9, m9_10, m9_12, m9_15, m9_16, m9_18, m9_21, m9_22, m9_24, m9_27, m9_28, m9_31, m9_32u, m9_34, m9_35, m9_36, m9_39u, m9_41, m9_43, m9_45, m9_48, m9_49, m9_50, m9_52, m9_55, m9_56, m9_59, m9_60u, m9_62, m9_63, m9_66, m9_68, m9_71, m9_72, m9_73, m9_74, m9_77, m9_80, m9_81, m9_82, m9_83, m9_86, m9_89, m9_90, m9_91, m9_92, m9_95, m9_98, m9_99, m9_100, m9_101, m9_102, m9_105, m9_106, m9_109, m9_110, m9_113, m9_114, m0_0, m0_1, m0_4, m0_5, m0_6, m0_9, m0_10, m0_11, m0_14, m0_15, m0_16, m0_19, m0_20, m0_21, m0_24, m0_25, m0_26, m0_29, m0_30, m0_31, m0_34, m0_35, m0_36, m0_39, m0_40, m0_41, m0_44, m0_45, m0_46, m0_49, m0_50, m0_51, m0_54, m0_55, m0_56, m0_59, m0_60, m0_62, m0_65, m0_66, m0_68, m0_71, m0_72, m0_74, m0_77, m0_78, m0_80, m0_83, m0_84, m0_86, m0_89, m0_90, m0_92, m0_95, m0_96, m0_98, m0_101, m0_102, m0_104, m0_107, m0_108, m0_110, m0_113, m0_114, m0_116, m0_119, m0_120, m0_128, m0_129, m0_137, m0_138, m0_146, m0_147, m0_154, m0_155, m0_162, m0_163, m0_170, m0_171, m0_179, m0_180, m0_187, m0_188, m0_195, m0_196, m0_203, m0_204, m0_211, m0_212, m0_219, m0_220, m0_227, m0_228, m0_235, m0_236, m0_243, m0_244, m0_251, m0_252, m0_259, m0_260, m0_267, m0_268, m0_275, m0_276, m0_283, m0_284, m0_292, m0_293, m0_301, m0_302, m0_310, m0_311, m0_319, m0_320, m0_328, m0_329, m0_336, m0_337, m0_344, m0_345, m0_352, m0_353, m0_360, m0_361, m0_368, m0_369, m0_376, m0_377, m0_384, m0_385, m0_393, m0_394, m0_402, m0_403u, m0_404, m0_405, m0_407, m0_410, m0_412i, m0_413, m0_414, m0_416, m0_419, m0_421i, m0_422, m0_423, m0_424, m0_427, m1_0, m1_1, m1_2, m1_5, m1_8, m1_9, m1_12, m1_15, m1_18, m1_19, m1_20, m1_21, m1_24, m1_25, m1_28, m1_29, m1_30, m1_31, m1_32, m1_33, m1_36, m1_37, m1_38, m1_41, m1_42, m1_45, m1_46, m2_0, m2_1, m2_3, m2_6, m2_7, m2_9, m2_12, m2_13, m2_15, m2_18, m2_19, m2_22, m2_23, m3_0, m3_1, m3_4, m4_0, m4_1, m4_4, m5_0, m5_1, m5_4, m5_5, m5_8, m5_9, m5_12, m5_15, m5_16, m6_0, m6_1, m6_4, m6_5, m6_8, m6_9, m6_12, m6_15, m6_16, m7_0, m7_1, m7_4, m7_5, m7_6, m7_9, m7_12, m7_13, m7_15, m7_18, m7_19, m7_20, m7_21, m7_24, m7_25, m7_26, m8_0, m8_1, m8_2, m8_5, m8_6, m8_7, m8_10, m8_11, m8_12, m8_15, m8_16, m8_17, m8_20, m8_21, m8_22, m8_25, m8_26, m8_27, m8_30, nb0, nb1, ou_a, Option.toList_some, Option.toList_none, List.nil_append, List.cons_append, getA_set2, setA_len, inB_iff, A0g_0, A0g_1, A0g_2, A0g_3, A0g_4, A0g_5, A0g_6, A0g_7, A0g_8, A0g_9, A0g_10, A0g_11, A0g_12, A0g_13, A0g_14, A0g_15, A0g_16, A0g_17, A0g_18, A0g_19, A0g_20, A0g_21, A0g_22, A0g_23, A0g_24, A0g_25, A0g_26, A0g_27, A0g_28, A0l_0, A0l_1, A0l_2, A0l_3, A0l_4, A0l_5, A0l_6, A0l_7, A0l_8, A0l_9, A0l_10, A0l_11, A0l_12, A0l_13, A0l_14, A0l_15, A0l_16, A0l_17, A0l_18, A0l_19, A0l_20, A0l_21, A0l_22, A0l_23, A0l_24, A0l_25, A0l_26, A0l_27, A0l_28, B0l_0, B0l_1, B0l_2, B0l_3, B0l_4]
        refine ⟨?_, ?_⟩ <;> simp only [ou_a, setA_len, put_len, put_tot, pad_0, tot_nil, List.length_nil, List.length_cons, A0l_0, A0l_1, A0l_2, A0l_3, A0l_4, A0l_5, A0l_6, A0l_7, A0l_8, A0l_9, A0l_10, A0l_11, A0l_12, A0l_13, A0l_14, A0l_15, A0l_16, A0l_17, A0l_18, A0l_19, A0l_20, A0l_21, A0l_22, A0l_23, A0l_24, A0l_25, A0l_26, A0l_27, A0l_28, B0l_0, B0l_1, B0l_2, B0l_3, B0l_4] <;> simp [setA_len, put_len, put_tot, pad_0, tot_nil, List.length_nil, List.length_cons, A0l_0, A0l_1, A0l_2, A0l_3, A0l_4, A0l_5, A0l_6, A0l_7, A0l_8, A0l_9, A0l_10, A0l_11, A0l_12, A0l_13, A0l_14, A0l_15, A0l_16, A0l_17, A0l_18, A0l_19, A0l_20, A0l_21, A0l_22, A0l_23, A0l_24, A0l_25, A0l_26, A0l_27, A0l_28, B0l_0, B0l_1, B0l_2, B0l_3, B0l_4]
theorem own_dn : ∀ f' l', dnOf dn x = some (f', l') → f' ≤ room_1.frames ∧ l' ≤ room_1.locals := by
  have h : dnOf dn x = some (2, 27) := by decide +kernel
  intro f' l' q; rw [h] at q; cases q; decide
theorem own_pn : Jvm.plainName x.cls = true := by first | (simp [Jvm.plainName, overriddenIn, x]; done) | decide +kernel
theorem own_rm (l : Launch) (Z : State) (a0 : Array Value) (hw : ∀ d ∈ tables_1, d.before a0 Z = true) (i0 : Int32) (i1 : Int32) (i2 : Int32) (h : Heap) :
    MetFree l x (head1 (Jvm.Cond.code x code maxLocals ret :: tables_1) room_1) (fun a U => a = #[.int i0, .int i1, .int i2] ∧ Z.Warmed39 U.vm ∧ U.heap = h) (fun _ _ _ _ _ => True) (fun _ U o U' => ∃ w L, o = .returned w ∧ (w = some (.int 1) ∧ Fr h.size L) ∧ FrameEnd U o U' L 80 18496) :=
  law_of (as := [.int i0, .int i1, .int i2]) (mx := maxLocals) (f := room_1.frames) (lc := room_1.locals) hw l tables_1 own_pn (by show 3 ≤ 7; omega) (own_law i0 i1 i2) own_dn (Sim.empty Z tables_1 h)
set_option maxRecDepth 65536 in
set_option maxHeartbeats 40000000 in
theorem comes_1 {Post : Tables → Env → Array Value → State → Outcome → State → Prop} (hpost : ∀ tb e args s v u, (limb_1_1.after args s (.returned v) u = true ∧ limb_1_2.after args s (.returned v) u = true ∧ True) → FrameEnd s (.returned v) u (Jvm.fieldLocs frame_1_writes args s ++ Jvm.arrayLocs frame_1_arrays args s ++ Jvm.staticLocs frame_1_statics s) 80 18496 → Post tb e args s (.returned v) u) :
    ArmFor flags0 classFile x code maxLocals ret World_1 tables_1 room_1 Calls_1 rest_1 Pre_1 Post := by
  intro l hfl _ _ p e ha hc hk s m args below hf hA hF happ hP
  obtain ⟨hcalls, hrest, hpre⟩ := hP
  obtain ⟨-, -, -, hnamed, -, -, -, hat⟩ := (Spec.applies_iff hf).mp happ
  obtain ⟨hg, hn⟩ := and_e (Cond.before_iff.mp (show (Jvm.Cond.and given_1 narrow_1).before args s = true from hpre))
  obtain ⟨g0, t0⟩ := and_e hg
  obtain ⟨q0, t1⟩ := and_e t0
  obtain ⟨q1, t2⟩ := and_e t1
  have q2 := t2
  obtain ⟨w0, w1, w2, rfl⟩ : ∃ w0 w1 w2 : Value, args = #[w0, w1, w2] := by
    have hs : args.size = 3 := by simpa [Cond.value, given_1] using g0
    obtain ⟨L⟩ := args
    match L, hs with
    | [w0, w1, w2], _ => exact ⟨w0, w1, w2, rfl⟩
  have hw := fun d (hd : d ∈ tables_1) => atoms_spec (ws := Jvm.Cond.code x code maxLocals ret :: tables_1) hat d (List.mem_cons_of_mem _ hd)
  obtain ⟨i0, ei0⟩ := is_v q0
  obtain rfl : w0 = (.int i0) := Option.some.inj ei0
  obtain ⟨i1, ei1⟩ := is_v q1
  obtain rfl : w1 = (.int i1) := Option.some.inj ei1
  obtain ⟨i2, ei2⟩ := is_v q2
  obtain rfl : w2 = (.int i2) := Option.some.inj ei2
  obtain ⟨n, o, h1, h2, h3, _, L, rfl, ⟨rfl, N⟩, hq⟩ := own_rm l s _ hw i0 i1 i2 s.heap p e ha hc hk s m _ below hf ((Spec.applies_iff_loose hf).mp happ).1 ⟨rfl, State.Warmed39.refl s, rfl⟩ trivial
  exact ⟨n, _, h1, h2, h3, hpost _ _ _ _ _ _ ⟨Cond.after_iff.mpr rfl, Cond.after_iff.mpr (eq_i res_at (Term.int_eval (1)) rfl), trivial⟩ ⟨hq.1, hq.2.1, (hq.2.2.sift fun y hy => Or.inr (N y hy)).mono (by decide) (by decide)⟩⟩
theorem main_1_1 : Claimed_1_1 := comes_1 fun _ _ _ _ _ _ h hF => ⟨h.1, hF⟩
theorem main_1_2 : Claimed_1_2 := comes_1 fun _ _ _ _ _ _ h hF => ⟨h.2.1, hF⟩
end Jvm.Pilot.@@N@@
namespace Jvm.Pilot.@@N@@
open Jvm Jvm.ClassFile Sem Op Lib Jvm.Free Jvm.Stand Jvm.Pilot.@@N@@.Jvm.D
/-! MADE BY PROGRAM (witnessworld.py) out of the Statement's table words and the real class files: 15 classes; the members and pool entries that the words name. The judged class is class 1, her method 1. -/
namespace start1
open Jvm.ClassFile
def u (s : String) : CpInfo := .utf8 (stringToUtf16 s)
/-- a pool by its gaps: so many unusable entries, then the entry; so many at the end -/
def gap : Nat → List CpInfo → List CpInfo
  | 0, r => r
  | n + 1, r => .unusable :: gap n r
def poolList (es : List (Nat × CpInfo)) (last : Nat) : List CpInfo := es.foldr (fun e r => gap e.1 (e.2 :: r)) (gap last [])
def pool (es : List (Nat × CpInfo)) (last : Nat) : Array CpInfo := ⟨poolList es last⟩
def fileOf (pool : Array CpInfo) (this : Nat) (attrs : Array Attribute := #[]) (ms : Array MethodInfo := #[]) (fl : Nat := 33) (sup : Nat := 0) (ifs : Array Nat := #[]) (fds : Array FieldInfo := #[]) : ClassFile where
  minorVersion := 0
  majorVersion := 65
  constantPool := pool
  accessFlags := fl
  thisClass := this
  superClass := sup
  interfaces := ifs
  fields := fds
  methods := ms
  attributes := attrs
def plain (name : String) (sup : Option ClassId) : Class where
  name := name
  kind := .ordinary
  loader := none
  accessFlags := 33
  super := sup
  interfaces := #[]
  cf := none
  fields := #[]
  methods := #[]
  instanceTypes := #[]
  staticTypes := #[]
  resolved := #[]
  callSites := []
  init := .initialized
  statics := none
  mirror := none

def pool0 : Array CpInfo := pool [(5, u "<init>"), (0, u "()V"), (1, .class_ 10), (1, u "java/lang/Object")] 113

def k0c0 : Code := { maxStack := 0, maxLocals := 1, code := object_method_1_code, exceptionTable := #[], attributes := #[] }
def k0m0 : Method := { name := "<init>", desc := "()V", sig := { parameters := [], returnType := none }, accessFlags := 1, code := some k0c0 }
/-- java/lang/Object -/
def k0 : Class := { plain "java/lang/Object" none with
  accessFlags := 33
  interfaces := #[]
  cf := some (fileOf pool0 8 #[] #[{ accessFlags := 1, nameIndex := 5, descriptorIndex := 6, attributes := #[] }] 33 0 #[] #[])
  fields := #[]
  methods := #[k0m0]
  instanceTypes := #[]
  staticTypes := #[]
  resolved := Array.replicate 124 none
  statics := none }

def pool1 : Array CpInfo := pool [(2, .class_ 4), (1, u "java/lang/Object"), (0, u "<init>"), (0, u "()V"), (0, .class_ 8), (0, u "MacroAssembler"), (0, .methodref 7 10), (0, .nameAndType 5 11), (0, u "(I)V"), (0, .methodref 7 13), (0, .nameAndType 14 15), (0, u "feed"), (0, u "(I)Z"), (0, .methodref 7 17), (0, .nameAndType 18 19), (0, u "sourceLength"), (0, u "()I"), (0, .methodref 7 21), (0, .nameAndType 22 19), (0, u "status"), (0, .methodref 7 24), (0, .nameAndType 25 19), (0, u "errorLine"), (0, .methodref 7 27), (0, .nameAndType 28 19), (0, u "imageLength"), (0, .methodref 7 30), (0, .nameAndType 31 32), (0, u "imageByte"), (0, u "(I)I"), (0, .class_ 34), (0, u "MacroAssemblerL1"), (2, u "law"), (0, u "(III)Z")] 3

def k1m0 : Method := { name := "<init>", desc := "()V", sig := { parameters := [], returnType := none }, accessFlags := 1, code := none }
def k1c1 : Code := { maxStack := 3, maxLocals := 7, code := code, exceptionTable := #[], attributes := #[] }
def k1m1 : Method := { name := "law", desc := "(III)Z", sig := { parameters := [.int, .int, .int], returnType := some .boolean }, accessFlags := 9, code := some k1c1 }
/-- MacroAssemblerL1 -/
def k1 : Class := { plain "MacroAssemblerL1" (some 0) with
  accessFlags := 49
  interfaces := #[]
  cf := some (fileOf pool1 33 #[] #[{ accessFlags := 1, nameIndex := 5, descriptorIndex := 6, attributes := #[] }, { accessFlags := 9, nameIndex := 37, descriptorIndex := 38, attributes := #[] }] 49 2 #[] #[])
  fields := #[]
  methods := #[k1m0, k1m1]
  instanceTypes := #[]
  staticTypes := #[]
  resolved := Array.replicate 42 none
  statics := none }

def pool2 : Array CpInfo := pool [(1, .methodref 2 3), (0, .class_ 4), (0, .nameAndType 5 6), (0, u "java/lang/Object"), (0, u "<init>"), (0, u "()V"), (0, .fieldref 8 9), (0, .class_ 10), (0, .nameAndType 11 12), (0, u "MacroAssembler"), (0, u "T_IDENT"), (0, u "I"), (0, .fieldref 8 14), (0, .nameAndType 15 12), (0, u "T_NUM"), (0, .fieldref 8 17), (0, .nameAndType 18 12), (0, u "B_IF"), (0, .fieldref 8 20), (0, .nameAndType 21 12), (0, u "B_REPT"), (0, .fieldref 8 23), (0, .nameAndType 24 12), (0, u "B_CALL"), (0, .fieldref 8 26), (0, .nameAndType 27 12), (0, u "M_NORMAL"), (0, .fieldref 8 29), (0, .nameAndType 30 12), (0, u "M_DEFINING"), (0, .fieldref 8 32), (0, .nameAndType 33 12), (0, u "M_SKIPPING"), (0, .fieldref 8 35), (0, .nameAndType 36 12), (0, u "K_FALSE"), (0, .fieldref 8 38), (0, .nameAndType 39 12), (0, u "K_ELSEPART"), (0, .fieldref 8 41), (0, .nameAndType 42 12), (0, u "K_REPT0"), (0, .fieldref 8 44), (0, .nameAndType 45 12), (0, u "KW_DB"), (0, .fieldref 8 47), (0, .nameAndType 48 12), (0, u "KW_EQU"), (0, .fieldref 8 50), (0, .nameAndType 51 12), (0, u "KW_MACRO"), (0, .fieldref 8 53), (0, .nameAndType 54 12), (0, u "KW_ENDM"), (0, .fieldref 8 56), (0, .nameAndType 57 12), (0, u "KW_IF"), (0, .fieldref 8 59), (0, .nameAndType 60 12), (0, u "KW_ELSE"), (0, .fieldref 8 62), (0, .nameAndType 63 12), (0, u "KW_ENDIF"), (0, .fieldref 8 65), (0, .nameAndType 66 12), (0, u "KW_REPT"), (0, .fieldref 8 68), (0, .nameAndType 69 12), (0, u "KW_ENDR"), (0, .fieldref 8 71), (0, .nameAndType 72 12), (0, u "ARG_SLOT"), (0, .fieldref 8 74), (0, .nameAndType 75 76), (0, u "src"), (0, u "[C"), (0, .fieldref 8 78), (0, .nameAndType 79 80), (0, u "lineStart"), (0, u "[I"), (0, .fieldref 8 82), (0, .nameAndType 83 80), (0, u "lineEnd"), (0, .fieldref 8 85), (0, .nameAndType 86 80), (0, u "img"), (0, .fieldref 8 88), (0, .nameAndType 89 90), (0, u "symCode"), (0, u "[J"), (0, .fieldref 8 92), (0, .nameAndType 93 80), (0, u "symVal"), (0, .fieldref 8 95), (0, .nameAndType 96 76), (0, u "lst"), (0, .fieldref 8 98), (0, .nameAndType 99 76), (0, u "dig"), (0, .fieldref 8 101), (0, .nameAndType 102 90), (0, u "macCode"), (0, .fieldref 8 104), (0, .nameAndType 105 80), (0, u "macStart"), (0, .fieldref 8 107), (0, .nameAndType 108 80), (0, u "macEnd"), (0, .fieldref 8 110), (0, .nameAndType 111 80), (0, u "bType"), (0, .fieldref 8 113), (0, .nameAndType 114 115), (0, u "bElse"), (0, u "[Z"), (0, .fieldref 8 117), (0, .nameAndType 118 80), (0, u "bRemain"), (0, .fieldref 8 120), (0, .nameAndType 121 80), (0, u "bRetMac"), (0, .fieldref 8 123), (0, .nameAndType 124 80), (0, u "bRetLine"), (0, .fieldref 8 126), (0, .nameAndType 127 80), (0, u "bK"), (0, .fieldref 8 129), (0, .nameAndType 130 80), (0, u "bErr"), (0, .fieldref 8 132), (0, .nameAndType 133 80), (0, u "bArgN"), (0, .fieldref 8 135), (0, .nameAndType 136 80), (0, u "argLen"), (0, .fieldref 8 138), (0, .nameAndType 139 76), (0, u "argCh"), (0, .fieldref 8 141), (0, .nameAndType 142 76), (0, u "ln"), (0, .fieldref 8 144), (0, .nameAndType 145 80), (0, u "tkType"), (0, .fieldref 8 147), (0, .nameAndType 148 80), (0, u "tkVal"), (0, .fieldref 8 150), (0, .nameAndType 151 90), (0, u "tkCode"), (0, .fieldref 8 153), (0, .nameAndType 154 90), (0, u "exUCode"), (0, .fieldref 8 156), (0, .nameAndType 157 80), (0, u "exUCoef"), (0, .fieldref 8 159), (0, .nameAndType 160 80), (0, u "fixAddr"), (0, .fieldref 8 162), (0, .nameAndType 163 80), (0, u "fixErr"), (0, .fieldref 8 165), (0, .nameAndType 166 80), (0, u "fixConst"), (0, .fieldref 8 168), (0, .nameAndType 169 80), (0, u "fixUN"), (0, .fieldref 8 171), (0, .nameAndType 172 115), (0, u "fixDoom"), (0, .fieldref 8 174), (0, .nameAndType 175 90), (0, u "fixUCode"), (0, .fieldref 8 177), (0, .nameAndType 178 80), (0, u "fixUCoef"), (0, .fieldref 8 180), (0, .nameAndType 181 12), (0, u "cap"), (0, .methodref 8 183), (0, .nameAndType 184 185), (0, u "validChar"), (0, u "(I)Z"), (0, .fieldref 8 187), (0, .nameAndType 188 12), (0, u "srcLen"), (0, .methodref 8 190), (0, .nameAndType 191 6), (0, u "resetResult"), (9, u "err"), (0, u "Z"), (2, u "done"), (5, u "nLines"), (2, u "hLine"), (6, .fieldref 8 222), (0, .nameAndType 223 12), (0, u "status"), (0, .fieldref 8 225), (0, .nameAndType 226 12), (0, u "errLine"), (0, .fieldref 8 228), (0, .nameAndType 229 12), (0, u "imgLen"), (0, .fieldref 8 231), (0, .nameAndType 232 12), (0, u "symN"), (0, .fieldref 8 234), (0, .nameAndType 235 12), (0, u "expCount"), (0, .fieldref 8 237), (0, .nameAndType 238 12), (0, u "lstLen"), (2, u "loc"), (2, u "counter"), (3, .methodref 8 249), (0, .nameAndType 250 251), (0, u "imageLength"), (0, u "()I"), (24, u "lnLen"), (10, u "(I)I"), (24, u "macN"), (2, u "digFrom"), (2, u "sp"), (2, u "reads"), (2, u "fixN"), (2, u "mode"), (2, u "skipKind"), (2, u "skipDepth"), (2, u "defMac"), (9, u "curMac"), (2, u "curLine"), (2, u "curEnd"), (9, u "(I)V"), (39, u "restAt"), (20, u "hasLabel"), (2, u "labelCode"), (0, u "J"), (24, u "tkN"), (11, u "exUnknown"), (2, u "exConst"), (44, u "exUN"), (2, u "exDoom"), (19, u "STATUS_NONE"), (2, u "STATUS_OK"), (1, u "STATUS_ERROR"), (1, u "SOURCE_CAP"), (1, u "MAX_SYMBOLS"), (1, u "MAX_NAME"), (1, u "MAX_MACROS"), (0, u "MAX_ARGS"), (1, u "MAX_DEPTH"), (0, u "MAX_READS"), (1, u "MAX_SUBST_LINE"), (1, u "MAX_REPT"), (0, u "OP_NOP"), (0, u "OP_HLT"), (0, u "OP_INC"), (0, u "OP_DEC"), (1, u "CODE_LDA"), (0, u "CODE_STA"), (0, u "CODE_ADD"), (0, u "CODE_SUB"), (0, u "CODE_JMP"), (1, u "CODE_JZ"), (1, u "SHORT_BASE"), (0, u "LONG_BASE"), (13, u "feed"), (3, u "errorLine"), (0, u "sourceLength"), (0, u "imageByte")] 7

def k2c0 : Code := { maxStack := 2, maxLocals := 3, code := prog_1_method_1_code, exceptionTable := #[], attributes := #[] }
def k2m0 : Method := { name := "<init>", desc := "(I)V", sig := { parameters := [.int], returnType := none }, accessFlags := 1, code := some k2c0 }
def k2c1 : Code := { maxStack := 3, maxLocals := 2, code := prog_1_method_2_code, exceptionTable := #[], attributes := #[] }
def k2m1 : Method := { name := "feed", desc := "(I)Z", sig := { parameters := [.int], returnType := some .boolean }, accessFlags := 1, code := some k2c1 }
def k2c2 : Code := { maxStack := 1, maxLocals := 1, code := prog_1_method_6_code, exceptionTable := #[], attributes := #[] }
def k2m2 : Method := { name := "status", desc := "()I", sig := { parameters := [], returnType := some .int }, accessFlags := 1, code := some k2c2 }
def k2c3 : Code := { maxStack := 2, maxLocals := 1, code := prog_1_method_7_code, exceptionTable := #[], attributes := #[] }
def k2m3 : Method := { name := "errorLine", desc := "()I", sig := { parameters := [], returnType := some .int }, accessFlags := 1, code := some k2c3 }
def k2c4 : Code := { maxStack := 1, maxLocals := 1, code := prog_1_method_8_code, exceptionTable := #[], attributes := #[] }
def k2m4 : Method := { name := "sourceLength", desc := "()I", sig := { parameters := [], returnType := some .int }, accessFlags := 1, code := some k2c4 }
def k2c5 : Code := { maxStack := 2, maxLocals := 1, code := prog_1_method_9_code, exceptionTable := #[], attributes := #[] }
def k2m5 : Method := { name := "imageLength", desc := "()I", sig := { parameters := [], returnType := some .int }, accessFlags := 1, code := some k2c5 }
def k2c6 : Code := { maxStack := 2, maxLocals := 2, code := prog_1_method_10_code, exceptionTable := #[], attributes := #[] }
def k2m6 : Method := { name := "imageByte", desc := "(I)I", sig := { parameters := [.int], returnType := some .int }, accessFlags := 1, code := some k2c6 }
def k2c7 : Code := { maxStack := 2, maxLocals := 2, code := prog_1_method_18_code, exceptionTable := #[], attributes := #[] }
def k2m7 : Method := { name := "validChar", desc := "(I)Z", sig := { parameters := [.int], returnType := some .boolean }, accessFlags := 2, code := some k2c7 }
def k2c8 : Code := { maxStack := 2, maxLocals := 1, code := prog_1_method_20_code, exceptionTable := #[], attributes := #[] }
def k2m8 : Method := { name := "resetResult", desc := "()V", sig := { parameters := [], returnType := none }, accessFlags := 2, code := some k2c8 }
/-- MacroAssembler -/
def k2 : Class := { plain "MacroAssembler" (some 0) with
  accessFlags := 49
  interfaces := #[]
  cf := some (fileOf pool2 8 #[] #[{ accessFlags := 1, nameIndex := 5, descriptorIndex := 362, attributes := #[] }, { accessFlags := 1, nameIndex := 585, descriptorIndex := 185, attributes := #[] }, { accessFlags := 1, nameIndex := 223, descriptorIndex := 251, attributes := #[] }, { accessFlags := 1, nameIndex := 589, descriptorIndex := 251, attributes := #[] }, { accessFlags := 1, nameIndex := 590, descriptorIndex := 251, attributes := #[] }, { accessFlags := 1, nameIndex := 250, descriptorIndex := 251, attributes := #[] }, { accessFlags := 1, nameIndex := 591, descriptorIndex := 287, attributes := #[] }, { accessFlags := 2, nameIndex := 184, descriptorIndex := 185, attributes := #[] }, { accessFlags := 2, nameIndex := 191, descriptorIndex := 6, attributes := #[] }] 49 2 #[] #[{ accessFlags := 25, nameIndex := 535, descriptorIndex := 12, attributes := #[] }, { accessFlags := 25, nameIndex := 538, descriptorIndex := 12, attributes := #[] }, { accessFlags := 25, nameIndex := 540, descriptorIndex := 12, attributes := #[] }, { accessFlags := 25, nameIndex := 542, descriptorIndex := 12, attributes := #[] }, { accessFlags := 25, nameIndex := 544, descriptorIndex := 12, attributes := #[] }, { accessFlags := 25, nameIndex := 546, descriptorIndex := 12, attributes := #[] }, { accessFlags := 25, nameIndex := 548, descriptorIndex := 12, attributes := #[] }, { accessFlags := 25, nameIndex := 549, descriptorIndex := 12, attributes := #[] }, { accessFlags := 25, nameIndex := 551, descriptorIndex := 12, attributes := #[] }, { accessFlags := 25, nameIndex := 552, descriptorIndex := 12, attributes := #[] }, { accessFlags := 25, nameIndex := 554, descriptorIndex := 12, attributes := #[] }, { accessFlags := 25, nameIndex := 556, descriptorIndex := 12, attributes := #[] }, { accessFlags := 25, nameIndex := 557, descriptorIndex := 12, attributes := #[] }, { accessFlags := 25, nameIndex := 558, descriptorIndex := 12, attributes := #[] }, { accessFlags := 25, nameIndex := 559, descriptorIndex := 12, attributes := #[] }, { accessFlags := 25, nameIndex := 560, descriptorIndex := 12, attributes := #[] }, { accessFlags := 25, nameIndex := 562, descriptorIndex := 12, attributes := #[] }, { accessFlags := 25, nameIndex := 563, descriptorIndex := 12, attributes := #[] }, { accessFlags := 25, nameIndex := 564, descriptorIndex := 12, attributes := #[] }, { accessFlags := 25, nameIndex := 565, descriptorIndex := 12, attributes := #[] }, { accessFlags := 25, nameIndex := 566, descriptorIndex := 12, attributes := #[] }, { accessFlags := 25, nameIndex := 568, descriptorIndex := 12, attributes := #[] }, { accessFlags := 25, nameIndex := 570, descriptorIndex := 12, attributes := #[] }, { accessFlags := 25, nameIndex := 571, descriptorIndex := 12, attributes := #[] }, { accessFlags := 18, nameIndex := 11, descriptorIndex := 12, attributes := #[] }, { accessFlags := 18, nameIndex := 15, descriptorIndex := 12, attributes := #[] }, { accessFlags := 18, nameIndex := 18, descriptorIndex := 12, attributes := #[] }, { accessFlags := 18, nameIndex := 21, descriptorIndex := 12, attributes := #[] }, { accessFlags := 18, nameIndex := 24, descriptorIndex := 12, attributes := #[] }, { accessFlags := 18, nameIndex := 27, descriptorIndex := 12, attributes := #[] }, { accessFlags := 18, nameIndex := 30, descriptorIndex := 12, attributes := #[] }, { accessFlags := 18, nameIndex := 33, descriptorIndex := 12, attributes := #[] }, { accessFlags := 18, nameIndex := 36, descriptorIndex := 12, attributes := #[] }, { accessFlags := 18, nameIndex := 39, descriptorIndex := 12, attributes := #[] }, { accessFlags := 18, nameIndex := 42, descriptorIndex := 12, attributes := #[] }, { accessFlags := 18, nameIndex := 45, descriptorIndex := 12, attributes := #[] }, { accessFlags := 18, nameIndex := 48, descriptorIndex := 12, attributes := #[] }, { accessFlags := 18, nameIndex := 51, descriptorIndex := 12, attributes := #[] }, { accessFlags := 18, nameIndex := 54, descriptorIndex := 12, attributes := #[] }, { accessFlags := 18, nameIndex := 57, descriptorIndex := 12, attributes := #[] }, { accessFlags := 18, nameIndex := 60, descriptorIndex := 12, attributes := #[] }, { accessFlags := 18, nameIndex := 63, descriptorIndex := 12, attributes := #[] }, { accessFlags := 18, nameIndex := 66, descriptorIndex := 12, attributes := #[] }, { accessFlags := 18, nameIndex := 69, descriptorIndex := 12, attributes := #[] }, { accessFlags := 18, nameIndex := 72, descriptorIndex := 12, attributes := #[] }, { accessFlags := 2, nameIndex := 181, descriptorIndex := 12, attributes := #[] }, { accessFlags := 18, nameIndex := 75, descriptorIndex := 76, attributes := #[] }, { accessFlags := 2, nameIndex := 188, descriptorIndex := 12, attributes := #[] }, { accessFlags := 18, nameIndex := 79, descriptorIndex := 80, attributes := #[] }, { accessFlags := 18, nameIndex := 83, descriptorIndex := 80, attributes := #[] }, { accessFlags := 2, nameIndex := 211, descriptorIndex := 12, attributes := #[] }, { accessFlags := 2, nameIndex := 223, descriptorIndex := 12, attributes := #[] }, { accessFlags := 2, nameIndex := 226, descriptorIndex := 12, attributes := #[] }, { accessFlags := 2, nameIndex := 229, descriptorIndex := 12, attributes := #[] }, { accessFlags := 2, nameIndex := 235, descriptorIndex := 12, attributes := #[] }, { accessFlags := 18, nameIndex := 86, descriptorIndex := 80, attributes := #[] }, { accessFlags := 18, nameIndex := 89, descriptorIndex := 90, attributes := #[] }, { accessFlags := 18, nameIndex := 93, descriptorIndex := 80, attributes := #[] }, { accessFlags := 2, nameIndex := 232, descriptorIndex := 12, attributes := #[] }, { accessFlags := 18, nameIndex := 96, descriptorIndex := 76, attributes := #[] }, { accessFlags := 2, nameIndex := 238, descriptorIndex := 12, attributes := #[] }, { accessFlags := 18, nameIndex := 99, descriptorIndex := 76, attributes := #[] }, { accessFlags := 2, nameIndex := 315, descriptorIndex := 12, attributes := #[] }, { accessFlags := 18, nameIndex := 102, descriptorIndex := 90, attributes := #[] }, { accessFlags := 18, nameIndex := 105, descriptorIndex := 80, attributes := #[] }, { accessFlags := 18, nameIndex := 108, descriptorIndex := 80, attributes := #[] }, { accessFlags := 2, nameIndex := 312, descriptorIndex := 12, attributes := #[] }, { accessFlags := 2, nameIndex := 336, descriptorIndex := 12, attributes := #[] }, { accessFlags := 18, nameIndex := 111, descriptorIndex := 80, attributes := #[] }, { accessFlags := 18, nameIndex := 114, descriptorIndex := 115, attributes := #[] }, { accessFlags := 18, nameIndex := 118, descriptorIndex := 80, attributes := #[] }, { accessFlags := 18, nameIndex := 121, descriptorIndex := 80, attributes := #[] }, { accessFlags := 18, nameIndex := 124, descriptorIndex := 80, attributes := #[] }, { accessFlags := 18, nameIndex := 127, descriptorIndex := 80, attributes := #[] }, { accessFlags := 18, nameIndex := 130, descriptorIndex := 80, attributes := #[] }, { accessFlags := 18, nameIndex := 133, descriptorIndex := 80, attributes := #[] }, { accessFlags := 18, nameIndex := 136, descriptorIndex := 80, attributes := #[] }, { accessFlags := 18, nameIndex := 139, descriptorIndex := 76, attributes := #[] }, { accessFlags := 2, nameIndex := 318, descriptorIndex := 12, attributes := #[] }, { accessFlags := 2, nameIndex := 346, descriptorIndex := 12, attributes := #[] }, { accessFlags := 2, nameIndex := 349, descriptorIndex := 12, attributes := #[] }, { accessFlags := 2, nameIndex := 352, descriptorIndex := 12, attributes := #[] }, { accessFlags := 2, nameIndex := 327, descriptorIndex := 12, attributes := #[] }, { accessFlags := 2, nameIndex := 330, descriptorIndex := 12, attributes := #[] }, { accessFlags := 2, nameIndex := 333, descriptorIndex := 12, attributes := #[] }, { accessFlags := 2, nameIndex := 321, descriptorIndex := 12, attributes := #[] }, { accessFlags := 2, nameIndex := 241, descriptorIndex := 12, attributes := #[] }, { accessFlags := 2, nameIndex := 244, descriptorIndex := 12, attributes := #[] }, { accessFlags := 2, nameIndex := 214, descriptorIndex := 12, attributes := #[] }, { accessFlags := 2, nameIndex := 201, descriptorIndex := 202, attributes := #[] }, { accessFlags := 2, nameIndex := 205, descriptorIndex := 202, attributes := #[] }, { accessFlags := 18, nameIndex := 142, descriptorIndex := 76, attributes := #[] }, { accessFlags := 2, nameIndex := 276, descriptorIndex := 12, attributes := #[] }, { accessFlags := 2, nameIndex := 423, descriptorIndex := 202, attributes := #[] }, { accessFlags := 2, nameIndex := 426, descriptorIndex := 427, attributes := #[] }, { accessFlags := 2, nameIndex := 402, descriptorIndex := 12, attributes := #[] }, { accessFlags := 18, nameIndex := 145, descriptorIndex := 80, attributes := #[] }, { accessFlags := 18, nameIndex := 148, descriptorIndex := 80, attributes := #[] }, { accessFlags := 18, nameIndex := 151, descriptorIndex := 90, attributes := #[] }, { accessFlags := 2, nameIndex := 452, descriptorIndex := 12, attributes := #[] }, { accessFlags := 2, nameIndex := 467, descriptorIndex := 12, attributes := #[] }, { accessFlags := 2, nameIndex := 512, descriptorIndex := 12, attributes := #[] }, { accessFlags := 2, nameIndex := 464, descriptorIndex := 202, attributes := #[] }, { accessFlags := 2, nameIndex := 515, descriptorIndex := 202, attributes := #[] }, { accessFlags := 18, nameIndex := 154, descriptorIndex := 90, attributes := #[] }, { accessFlags := 18, nameIndex := 157, descriptorIndex := 80, attributes := #[] }, { accessFlags := 2, nameIndex := 324, descriptorIndex := 12, attributes := #[] }, { accessFlags := 18, nameIndex := 160, descriptorIndex := 80, attributes := #[] }, { accessFlags := 18, nameIndex := 163, descriptorIndex := 80, attributes := #[] }, { accessFlags := 18, nameIndex := 166, descriptorIndex := 80, attributes := #[] }, { accessFlags := 18, nameIndex := 169, descriptorIndex := 80, attributes := #[] }, { accessFlags := 18, nameIndex := 172, descriptorIndex := 115, attributes := #[] }, { accessFlags := 18, nameIndex := 175, descriptorIndex := 90, attributes := #[] }, { accessFlags := 18, nameIndex := 178, descriptorIndex := 80, attributes := #[] }])
  fields := #[{ name := "STATUS_NONE", type := .int, accessFlags := 25, slot := 0, constantValue := 0 }, { name := "STATUS_OK", type := .int, accessFlags := 25, slot := 1, constantValue := 0 }, { name := "STATUS_ERROR", type := .int, accessFlags := 25, slot := 2, constantValue := 0 }, { name := "SOURCE_CAP", type := .int, accessFlags := 25, slot := 3, constantValue := 0 }, { name := "MAX_SYMBOLS", type := .int, accessFlags := 25, slot := 4, constantValue := 0 }, { name := "MAX_NAME", type := .int, accessFlags := 25, slot := 5, constantValue := 0 }, { name := "MAX_MACROS", type := .int, accessFlags := 25, slot := 6, constantValue := 0 }, { name := "MAX_ARGS", type := .int, accessFlags := 25, slot := 7, constantValue := 0 }, { name := "MAX_DEPTH", type := .int, accessFlags := 25, slot := 8, constantValue := 0 }, { name := "MAX_READS", type := .int, accessFlags := 25, slot := 9, constantValue := 0 }, { name := "MAX_SUBST_LINE", type := .int, accessFlags := 25, slot := 10, constantValue := 0 }, { name := "MAX_REPT", type := .int, accessFlags := 25, slot := 11, constantValue := 0 }, { name := "OP_NOP", type := .int, accessFlags := 25, slot := 12, constantValue := 0 }, { name := "OP_HLT", type := .int, accessFlags := 25, slot := 13, constantValue := 0 }, { name := "OP_INC", type := .int, accessFlags := 25, slot := 14, constantValue := 0 }, { name := "OP_DEC", type := .int, accessFlags := 25, slot := 15, constantValue := 0 }, { name := "CODE_LDA", type := .int, accessFlags := 25, slot := 16, constantValue := 0 }, { name := "CODE_STA", type := .int, accessFlags := 25, slot := 17, constantValue := 0 }, { name := "CODE_ADD", type := .int, accessFlags := 25, slot := 18, constantValue := 0 }, { name := "CODE_SUB", type := .int, accessFlags := 25, slot := 19, constantValue := 0 }, { name := "CODE_JMP", type := .int, accessFlags := 25, slot := 20, constantValue := 0 }, { name := "CODE_JZ", type := .int, accessFlags := 25, slot := 21, constantValue := 0 }, { name := "SHORT_BASE", type := .int, accessFlags := 25, slot := 22, constantValue := 0 }, { name := "LONG_BASE", type := .int, accessFlags := 25, slot := 23, constantValue := 0 }, { name := "T_IDENT", type := .int, accessFlags := 18, slot := 0, constantValue := 0 }, { name := "T_NUM", type := .int, accessFlags := 18, slot := 1, constantValue := 0 }, { name := "B_IF", type := .int, accessFlags := 18, slot := 2, constantValue := 0 }, { name := "B_REPT", type := .int, accessFlags := 18, slot := 3, constantValue := 0 }, { name := "B_CALL", type := .int, accessFlags := 18, slot := 4, constantValue := 0 }, { name := "M_NORMAL", type := .int, accessFlags := 18, slot := 5, constantValue := 0 }, { name := "M_DEFINING", type := .int, accessFlags := 18, slot := 6, constantValue := 0 }, { name := "M_SKIPPING", type := .int, accessFlags := 18, slot := 7, constantValue := 0 }, { name := "K_FALSE", type := .int, accessFlags := 18, slot := 8, constantValue := 0 }, { name := "K_ELSEPART", type := .int, accessFlags := 18, slot := 9, constantValue := 0 }, { name := "K_REPT0", type := .int, accessFlags := 18, slot := 10, constantValue := 0 }, { name := "KW_DB", type := .int, accessFlags := 18, slot := 11, constantValue := 0 }, { name := "KW_EQU", type := .int, accessFlags := 18, slot := 12, constantValue := 0 }, { name := "KW_MACRO", type := .int, accessFlags := 18, slot := 13, constantValue := 0 }, { name := "KW_ENDM", type := .int, accessFlags := 18, slot := 14, constantValue := 0 }, { name := "KW_IF", type := .int, accessFlags := 18, slot := 15, constantValue := 0 }, { name := "KW_ELSE", type := .int, accessFlags := 18, slot := 16, constantValue := 0 }, { name := "KW_ENDIF", type := .int, accessFlags := 18, slot := 17, constantValue := 0 }, { name := "KW_REPT", type := .int, accessFlags := 18, slot := 18, constantValue := 0 }, { name := "KW_ENDR", type := .int, accessFlags := 18, slot := 19, constantValue := 0 }, { name := "ARG_SLOT", type := .int, accessFlags := 18, slot := 20, constantValue := 0 }, { name := "cap", type := .int, accessFlags := 2, slot := 21, constantValue := 0 }, { name := "src", type := (.array .char), accessFlags := 18, slot := 22, constantValue := 0 }, { name := "srcLen", type := .int, accessFlags := 2, slot := 23, constantValue := 0 }, { name := "lineStart", type := (.array .int), accessFlags := 18, slot := 24, constantValue := 0 }, { name := "lineEnd", type := (.array .int), accessFlags := 18, slot := 25, constantValue := 0 }, { name := "nLines", type := .int, accessFlags := 2, slot := 26, constantValue := 0 }, { name := "status", type := .int, accessFlags := 2, slot := 27, constantValue := 0 }, { name := "errLine", type := .int, accessFlags := 2, slot := 28, constantValue := 0 }, { name := "imgLen", type := .int, accessFlags := 2, slot := 29, constantValue := 0 }, { name := "expCount", type := .int, accessFlags := 2, slot := 30, constantValue := 0 }, { name := "img", type := (.array .int), accessFlags := 18, slot := 31, constantValue := 0 }, { name := "symCode", type := (.array .long), accessFlags := 18, slot := 32, constantValue := 0 }, { name := "symVal", type := (.array .int), accessFlags := 18, slot := 33, constantValue := 0 }, { name := "symN", type := .int, accessFlags := 2, slot := 34, constantValue := 0 }, { name := "lst", type := (.array .char), accessFlags := 18, slot := 35, constantValue := 0 }, { name := "lstLen", type := .int, accessFlags := 2, slot := 36, constantValue := 0 }, { name := "dig", type := (.array .char), accessFlags := 18, slot := 37, constantValue := 0 }, { name := "digFrom", type := .int, accessFlags := 2, slot := 38, constantValue := 0 }, { name := "macCode", type := (.array .long), accessFlags := 18, slot := 39, constantValue := 0 }, { name := "macStart", type := (.array .int), accessFlags := 18, slot := 40, constantValue := 0 }, { name := "macEnd", type := (.array .int), accessFlags := 18, slot := 41, constantValue := 0 }, { name := "macN", type := .int, accessFlags := 2, slot := 42, constantValue := 0 }, { name := "defMac", type := .int, accessFlags := 2, slot := 43, constantValue := 0 }, { name := "bType", type := (.array .int), accessFlags := 18, slot := 44, constantValue := 0 }, { name := "bElse", type := (.array .boolean), accessFlags := 18, slot := 45, constantValue := 0 }, { name := "bRemain", type := (.array .int), accessFlags := 18, slot := 46, constantValue := 0 }, { name := "bRetMac", type := (.array .int), accessFlags := 18, slot := 47, constantValue := 0 }, { name := "bRetLine", type := (.array .int), accessFlags := 18, slot := 48, constantValue := 0 }, { name := "bK", type := (.array .int), accessFlags := 18, slot := 49, constantValue := 0 }, { name := "bErr", type := (.array .int), accessFlags := 18, slot := 50, constantValue := 0 }, { name := "bArgN", type := (.array .int), accessFlags := 18, slot := 51, constantValue := 0 }, { name := "argLen", type := (.array .int), accessFlags := 18, slot := 52, constantValue := 0 }, { name := "argCh", type := (.array .char), accessFlags := 18, slot := 53, constantValue := 0 }, { name := "sp", type := .int, accessFlags := 2, slot := 54, constantValue := 0 }, { name := "curMac", type := .int, accessFlags := 2, slot := 55, constantValue := 0 }, { name := "curLine", type := .int, accessFlags := 2, slot := 56, constantValue := 0 }, { name := "curEnd", type := .int, accessFlags := 2, slot := 57, constantValue := 0 }, { name := "mode", type := .int, accessFlags := 2, slot := 58, constantValue := 0 }, { name := "skipKind", type := .int, accessFlags := 2, slot := 59, constantValue := 0 }, { name := "skipDepth", type := .int, accessFlags := 2, slot := 60, constantValue := 0 }, { name := "reads", type := .int, accessFlags := 2, slot := 61, constantValue := 0 }, { name := "loc", type := .int, accessFlags := 2, slot := 62, constantValue := 0 }, { name := "counter", type := .int, accessFlags := 2, slot := 63, constantValue := 0 }, { name := "hLine", type := .int, accessFlags := 2, slot := 64, constantValue := 0 }, { name := "err", type := .boolean, accessFlags := 2, slot := 65, constantValue := 0 }, { name := "done", type := .boolean, accessFlags := 2, slot := 66, constantValue := 0 }, { name := "ln", type := (.array .char), accessFlags := 18, slot := 67, constantValue := 0 }, { name := "lnLen", type := .int, accessFlags := 2, slot := 68, constantValue := 0 }, { name := "hasLabel", type := .boolean, accessFlags := 2, slot := 69, constantValue := 0 }, { name := "labelCode", type := .long, accessFlags := 2, slot := 70, constantValue := 0 }, { name := "restAt", type := .int, accessFlags := 2, slot := 71, constantValue := 0 }, { name := "tkType", type := (.array .int), accessFlags := 18, slot := 72, constantValue := 0 }, { name := "tkVal", type := (.array .int), accessFlags := 18, slot := 73, constantValue := 0 }, { name := "tkCode", type := (.array .long), accessFlags := 18, slot := 74, constantValue := 0 }, { name := "tkN", type := .int, accessFlags := 2, slot := 75, constantValue := 0 }, { name := "exConst", type := .int, accessFlags := 2, slot := 76, constantValue := 0 }, { name := "exUN", type := .int, accessFlags := 2, slot := 77, constantValue := 0 }, { name := "exUnknown", type := .boolean, accessFlags := 2, slot := 78, constantValue := 0 }, { name := "exDoom", type := .boolean, accessFlags := 2, slot := 79, constantValue := 0 }, { name := "exUCode", type := (.array .long), accessFlags := 18, slot := 80, constantValue := 0 }, { name := "exUCoef", type := (.array .int), accessFlags := 18, slot := 81, constantValue := 0 }, { name := "fixN", type := .int, accessFlags := 2, slot := 82, constantValue := 0 }, { name := "fixAddr", type := (.array .int), accessFlags := 18, slot := 83, constantValue := 0 }, { name := "fixErr", type := (.array .int), accessFlags := 18, slot := 84, constantValue := 0 }, { name := "fixConst", type := (.array .int), accessFlags := 18, slot := 85, constantValue := 0 }, { name := "fixUN", type := (.array .int), accessFlags := 18, slot := 86, constantValue := 0 }, { name := "fixDoom", type := (.array .boolean), accessFlags := 18, slot := 87, constantValue := 0 }, { name := "fixUCode", type := (.array .long), accessFlags := 18, slot := 88, constantValue := 0 }, { name := "fixUCoef", type := (.array .int), accessFlags := 18, slot := 89, constantValue := 0 }]
  methods := #[k2m0, k2m1, k2m2, k2m3, k2m4, k2m5, k2m6, k2m7, k2m8]
  instanceTypes := #[.int, .int, .int, .int, .int, .int, .int, .int, .int, .int, .int, .int, .int, .int, .int, .int, .int, .int, .int, .int, .int, .int, (.array .char), .int, (.array .int), (.array .int), .int, .int, .int, .int, .int, (.array .int), (.array .long), (.array .int), .int, (.array .char), .int, (.array .char), .int, (.array .long), (.array .int), (.array .int), .int, .int, (.array .int), (.array .boolean), (.array .int), (.array .int), (.array .int), (.array .int), (.array .int), (.array .int), (.array .int), (.array .char), .int, .int, .int, .int, .int, .int, .int, .int, .int, .int, .int, .boolean, .boolean, (.array .char), .int, .boolean, .long, .int, (.array .int), (.array .int), (.array .long), .int, .int, .int, .boolean, .boolean, (.array .long), (.array .int), .int, (.array .int), (.array .int), (.array .int), (.array .int), (.array .boolean), (.array .long), (.array .int)]
  staticTypes := #[.int, .int, .int, .int, .int, .int, .int, .int, .int, .int, .int, .int, .int, .int, .int, .int, .int, .int, .int, .int, .int, .int, .int, .int]
  resolved := Array.replicate 599 none
  statics := none }

def pool3 : Array CpInfo := pool [(1, u "java/lang/Cloneable"), (0, .class_ 1), (0, u "java/lang/Object"), (0, .class_ 3)] 3

/-- java/lang/Cloneable -/
def k3 : Class := { plain "java/lang/Cloneable" (some 0) with
  accessFlags := 1537
  interfaces := #[]
  cf := some (fileOf pool3 2 #[] #[] 1537 4 #[] #[])
  fields := #[]
  methods := #[]
  instanceTypes := #[]
  staticTypes := #[]
  resolved := Array.replicate 8 none
  statics := none }

def pool4 : Array CpInfo := pool [(1, u "java/io/Serializable"), (0, .class_ 1), (0, u "java/lang/Object"), (0, .class_ 3)] 3

/-- java/io/Serializable -/
def k4 : Class := { plain "java/io/Serializable" (some 0) with
  accessFlags := 1537
  interfaces := #[]
  cf := some (fileOf pool4 2 #[] #[] 1537 4 #[] #[])
  fields := #[]
  methods := #[]
  instanceTypes := #[]
  staticTypes := #[]
  resolved := Array.replicate 8 none
  statics := none }

/-- the primitive boolean -/
def k5 : Class := { plain "boolean" none with kind := .primitive 'Z', accessFlags := 0x411 }
/-- [Z -/
def k6 : Class := { plain "[Z" (some 0) with kind := .array 5 .boolean, interfaces := #[3, 4], accessFlags := 1041 }

/-- the primitive byte -/
def k7 : Class := { plain "byte" none with kind := .primitive 'B', accessFlags := 0x411 }
/-- [B -/
def k8 : Class := { plain "[B" (some 0) with kind := .array 7 .byte, interfaces := #[3, 4], accessFlags := 1041 }

/-- the primitive char -/
def k9 : Class := { plain "char" none with kind := .primitive 'C', accessFlags := 0x411 }
/-- [C -/
def k10 : Class := { plain "[C" (some 0) with kind := .array 9 .char, interfaces := #[3, 4], accessFlags := 1041 }

/-- the primitive int -/
def k11 : Class := { plain "int" none with kind := .primitive 'I', accessFlags := 0x411 }
/-- [I -/
def k12 : Class := { plain "[I" (some 0) with kind := .array 11 .int, interfaces := #[3, 4], accessFlags := 1041 }

/-- the primitive long -/
def k13 : Class := { plain "long" none with kind := .primitive 'J', accessFlags := 0x411 }
/-- [J -/
def k14 : Class := { plain "[J" (some 0) with kind := .array 13 .long, interfaces := #[3, 4], accessFlags := 1041 }

def heap : Heap := #[]
def classes : Array Class := #[k0, k1, k2, k3, k4, k5, k6, k7, k8, k9, k10, k11, k12, k13, k14]
def interned : List (Array UInt16 × Addr) := []
def slotsUsed : Nat := 0
def theMethod : MethodId := ⟨1, 1⟩
def args0 : Array Value := #[.int 12, .int 65, .int 2]
def aboutOver (below : List Frame) : State where
  vm := { classes := classes, interned := interned.toArray }
  heap := heap
  slotsUsed := slotsUsed
  threads := #[{ frames := .invoking theMethod args0 :: below }]
def below0 : List Frame := [.native { method := ⟨0, 0⟩, args := #[] }]
def about1 : State := aboutOver below0
def p0 : Program := .bare "" "" ""
def e0 : Env := launch0.env 0 0 0
theorem w_frames : about1.frames = Frame.invoking theMethod args0 :: below0 := rfl
set_option maxRecDepth 65536 in
theorem w_args : argsFit about1.vm theMethod args0 = true := by decide +kernel
set_option maxRecDepth 65536 in
theorem w_heap : heapFits about1 = true := by decide +kernel
set_option maxRecDepth 65536 in
theorem w_runnable : about1.curStatus? = some .runnable := by decide +kernel
set_option maxRecDepth 65536 in
theorem w_alone : about1.alone = true := by decide +kernel
set_option maxRecDepth 65536 in
theorem w_named : about1.methodNamed? x = some theMethod := by decide +kernel
set_option maxRecDepth 65536 in
theorem w_hears : about1.hears theMethod below0 = true := by decide +kernel
set_option maxRecDepth 65536 in
theorem w_ripe : about1.ripe theMethod args0 below0 = true := by decide +kernel
theorem w_running : about1.status = .running := rfl
set_option maxRecDepth 65536 in
theorem w_room : about1.hasRoom e0.platform room_1 = true :=
  launch0.hasRoom_least _ room_1 (by decide +kernel) (by decide +kernel) (by decide +kernel) (by decide +kernel) (by decide +kernel) (by decide +kernel)
theorem allAtoms_all (ts : List Jvm.Cond) (a : Array Jvm.Value) (st : Jvm.State) : (allAtoms ts).before a st = ts.all (fun c => c.before a st) := by
  induction ts with
  | nil => rfl
  | cons c t ih =>
    show (Jvm.Cond.and c (allAtoms t)).before a st = _
    rw [Jvm.Cond.before_and, ih, List.all_cons]
def words1 : List Jvm.Cond := Jvm.Cond.code x code maxLocals ret :: tables_1
/-- a 'code' word, met by the world's own term for the bytes: nothing is compared byte by byte -/
theorem code_word {y : MethodName} {bytes : ByteArray} {mx : Nat} {rt : Option FieldType} {a : Array Value} {s : State} {m : MethodId} {meth : Method} {c : Code} (h1 : s.methodNamed? y = some m) (h2 : s.vm.method? m = some meth) (h3 : meth.code = some c) (h4 : c.code = bytes)
    (h5 : (c.maxLocals == mx && c.exceptionTable.isEmpty && decide (c.maxStack ≤ mostOperands) && decide (meth.sig.returnType = rt) && !meth.locks && decide (parseMethodDescriptor y.desc = some meth.sig)) = true) : (Jvm.Cond.code y bytes mx rt).before a s = true := by
  simp only [Bool.and_eq_true, beq_iff_eq, Bool.not_eq_true', decide_eq_true_eq] at h5
  obtain ⟨⟨⟨⟨⟨g1, g2⟩, g3⟩, g4⟩, g5⟩, g6⟩ := h5
  simp [Cond.before, Cond.holds, Cond.value, h1, h2, h3, h4, g1, g2, g3, g4, g5, g6]
def isCode : Jvm.Cond → Bool
  | .code _ _ _ _ => true
  | _ => false
theorem all_split {L : List Jvm.Cond} {P : Jvm.Cond → Bool} (h1 : L.all (fun c => isCode c || P c) = true) (h2 : ∀ c ∈ L.filter isCode, P c = true) : L.all P = true := by
  refine List.all_eq_true.mpr fun c hc => ?_
  have h := List.all_eq_true.mp h1 c hc
  rcases Bool.eq_false_or_eq_true (isCode c) with hi | hi
  · exact h2 c (List.mem_filter.mpr ⟨hc, hi⟩)
  · simpa [hi] using h
set_option maxRecDepth 65536 in
theorem w_c0 : (Jvm.Cond.code x code maxLocals ret).before args0 about1 = true := code_word (m := ⟨1, 1⟩) (meth := k1m1) (c := k1c1) (by decide +kernel) rfl rfl rfl (by decide +kernel)
set_option maxRecDepth 65536 in
theorem w_c1 : (Jvm.Cond.code ({ cls := "MacroAssembler", name := "<init>", desc := "(I)V" } : Jvm.MethodName) prog_1_method_1_code (3 : Nat) (Option.none : Option Jvm.ClassFile.FieldType)).before args0 about1 = true := code_word (m := ⟨2, 0⟩) (meth := k2m0) (c := k2c0) (by decide +kernel) rfl rfl rfl (by decide +kernel)
set_option maxRecDepth 65536 in
theorem w_c2 : (Jvm.Cond.code ({ cls := "java/lang/Object", name := "<init>", desc := "()V" } : Jvm.MethodName) object_method_1_code (1 : Nat) (Option.none : Option Jvm.ClassFile.FieldType)).before args0 about1 = true := code_word (m := ⟨0, 0⟩) (meth := k0m0) (c := k0c0) (by decide +kernel) rfl rfl rfl (by decide +kernel)
set_option maxRecDepth 65536 in
theorem w_c3 : (Jvm.Cond.code ({ cls := "MacroAssembler", name := "feed", desc := "(I)Z" } : Jvm.MethodName) prog_1_method_2_code (2 : Nat) (Option.some Jvm.ClassFile.FieldType.boolean)).before args0 about1 = true := code_word (m := ⟨2, 1⟩) (meth := k2m1) (c := k2c1) (by decide +kernel) rfl rfl rfl (by decide +kernel)
set_option maxRecDepth 65536 in
theorem w_c4 : (Jvm.Cond.code ({ cls := "MacroAssembler", name := "validChar", desc := "(I)Z" } : Jvm.MethodName) prog_1_method_18_code (2 : Nat) (Option.some Jvm.ClassFile.FieldType.boolean)).before args0 about1 = true := code_word (m := ⟨2, 7⟩) (meth := k2m7) (c := k2c7) (by decide +kernel) rfl rfl rfl (by decide +kernel)
set_option maxRecDepth 65536 in
theorem w_c5 : (Jvm.Cond.code ({ cls := "MacroAssembler", name := "sourceLength", desc := "()I" } : Jvm.MethodName) prog_1_method_8_code (1 : Nat) (Option.some Jvm.ClassFile.FieldType.int)).before args0 about1 = true := code_word (m := ⟨2, 4⟩) (meth := k2m4) (c := k2c4) (by decide +kernel) rfl rfl rfl (by decide +kernel)
set_option maxRecDepth 65536 in
theorem w_c6 : (Jvm.Cond.code ({ cls := "MacroAssembler", name := "status", desc := "()I" } : Jvm.MethodName) prog_1_method_6_code (1 : Nat) (Option.some Jvm.ClassFile.FieldType.int)).before args0 about1 = true := code_word (m := ⟨2, 2⟩) (meth := k2m2) (c := k2c2) (by decide +kernel) rfl rfl rfl (by decide +kernel)
set_option maxRecDepth 65536 in
theorem w_c7 : (Jvm.Cond.code ({ cls := "MacroAssembler", name := "errorLine", desc := "()I" } : Jvm.MethodName) prog_1_method_7_code (1 : Nat) (Option.some Jvm.ClassFile.FieldType.int)).before args0 about1 = true := code_word (m := ⟨2, 3⟩) (meth := k2m3) (c := k2c3) (by decide +kernel) rfl rfl rfl (by decide +kernel)
set_option maxRecDepth 65536 in
theorem w_c8 : (Jvm.Cond.code ({ cls := "MacroAssembler", name := "imageLength", desc := "()I" } : Jvm.MethodName) prog_1_method_9_code (1 : Nat) (Option.some Jvm.ClassFile.FieldType.int)).before args0 about1 = true := code_word (m := ⟨2, 5⟩) (meth := k2m5) (c := k2c5) (by decide +kernel) rfl rfl rfl (by decide +kernel)
set_option maxRecDepth 65536 in
theorem w_c9 : (Jvm.Cond.code ({ cls := "MacroAssembler", name := "imageByte", desc := "(I)I" } : Jvm.MethodName) prog_1_method_10_code (2 : Nat) (Option.some Jvm.ClassFile.FieldType.int)).before args0 about1 = true := code_word (m := ⟨2, 6⟩) (meth := k2m6) (c := k2c6) (by decide +kernel) rfl rfl rfl (by decide +kernel)
set_option maxRecDepth 65536 in
theorem w_c10 : (Jvm.Cond.code ({ cls := "MacroAssembler", name := "resetResult", desc := "()V" } : Jvm.MethodName) prog_1_method_20_code (1 : Nat) (Option.none : Option Jvm.ClassFile.FieldType)).before args0 about1 = true := code_word (m := ⟨2, 8⟩) (meth := k2m8) (c := k2c8) (by decide +kernel) rfl rfl rfl (by decide +kernel)
def codes1 : List Jvm.Cond := [Jvm.Cond.code x code maxLocals ret, Jvm.Cond.code ({ cls := "MacroAssembler", name := "<init>", desc := "(I)V" } : Jvm.MethodName) prog_1_method_1_code (3 : Nat) (Option.none : Option Jvm.ClassFile.FieldType), Jvm.Cond.code ({ cls := "java/lang/Object", name := "<init>", desc := "()V" } : Jvm.MethodName) object_method_1_code (1 : Nat) (Option.none : Option Jvm.ClassFile.FieldType), Jvm.Cond.code ({ cls := "MacroAssembler", name := "feed", desc := "(I)Z" } : Jvm.MethodName) prog_1_method_2_code (2 : Nat) (Option.some Jvm.ClassFile.FieldType.boolean), Jvm.Cond.code ({ cls := "MacroAssembler", name := "validChar", desc := "(I)Z" } : Jvm.MethodName) prog_1_method_18_code (2 : Nat) (Option.some Jvm.ClassFile.FieldType.boolean), Jvm.Cond.code ({ cls := "MacroAssembler", name := "sourceLength", desc := "()I" } : Jvm.MethodName) prog_1_method_8_code (1 : Nat) (Option.some Jvm.ClassFile.FieldType.int), Jvm.Cond.code ({ cls := "MacroAssembler", name := "status", desc := "()I" } : Jvm.MethodName) prog_1_method_6_code (1 : Nat) (Option.some Jvm.ClassFile.FieldType.int), Jvm.Cond.code ({ cls := "MacroAssembler", name := "errorLine", desc := "()I" } : Jvm.MethodName) prog_1_method_7_code (1 : Nat) (Option.some Jvm.ClassFile.FieldType.int), Jvm.Cond.code ({ cls := "MacroAssembler", name := "imageLength", desc := "()I" } : Jvm.MethodName) prog_1_method_9_code (1 : Nat) (Option.some Jvm.ClassFile.FieldType.int), Jvm.Cond.code ({ cls := "MacroAssembler", name := "imageByte", desc := "(I)I" } : Jvm.MethodName) prog_1_method_10_code (2 : Nat) (Option.some Jvm.ClassFile.FieldType.int), Jvm.Cond.code ({ cls := "MacroAssembler", name := "resetResult", desc := "()V" } : Jvm.MethodName) prog_1_method_20_code (1 : Nat) (Option.none : Option Jvm.ClassFile.FieldType)]
set_option maxRecDepth 65536 in
theorem codes_eq : words1.filter isCode = codes1 := rfl
theorem w_codes : ∀ c ∈ words1.filter isCode, c.before args0 about1 = true := by
  rw [codes_eq]
  intro c hc
  simp only [codes1, List.mem_cons, List.not_mem_nil, or_false] at hc
  rcases hc with rfl | rfl | rfl | rfl | rfl | rfl | rfl | rfl | rfl | rfl | rfl
  · exact w_c0
  · exact w_c1
  · exact w_c2
  · exact w_c3
  · exact w_c4
  · exact w_c5
  · exact w_c6
  · exact w_c7
  · exact w_c8
  · exact w_c9
  · exact w_c10
set_option maxRecDepth 65536 in
theorem w_t1 : (words1.take 24).all (fun c => isCode c || c.before args0 about1) = true := by decide +kernel
set_option maxRecDepth 65536 in
theorem w_t2 : ((words1.drop 24).take 24).all (fun c => isCode c || c.before args0 about1) = true := by decide +kernel
set_option maxRecDepth 65536 in
theorem w_t3 : (((words1.drop 24).drop 24).take 24).all (fun c => isCode c || c.before args0 about1) = true := by decide +kernel
set_option maxRecDepth 65536 in
theorem w_t4 : ((((words1.drop 24).drop 24).drop 24).take 24).all (fun c => isCode c || c.before args0 about1) = true := by decide +kernel
set_option maxRecDepth 65536 in
theorem w_t5 : (((((words1.drop 24).drop 24).drop 24).drop 24).take 24).all (fun c => isCode c || c.before args0 about1) = true := by decide +kernel
set_option maxRecDepth 65536 in
theorem w_t6 : ((((((words1.drop 24).drop 24).drop 24).drop 24).drop 24).take 24).all (fun c => isCode c || c.before args0 about1) = true := by decide +kernel
set_option maxRecDepth 65536 in
theorem w_t7 : (((((((words1.drop 24).drop 24).drop 24).drop 24).drop 24).drop 24).take 24).all (fun c => isCode c || c.before args0 about1) = true := by decide +kernel
set_option maxRecDepth 65536 in
theorem w_t8 : (((((((words1.drop 24).drop 24).drop 24).drop 24).drop 24).drop 24).drop 24).all (fun c => isCode c || c.before args0 about1) = true := by decide +kernel
theorem w_tables : (allAtoms (Jvm.Cond.code x code maxLocals ret :: tables_1)).before args0 about1 = true := by
  rw [allAtoms_all]
  show words1.all (fun c => c.before args0 about1) = true
  refine all_split ?_ w_codes
  rw [← List.take_append_drop 24 words1, List.all_append, w_t1, ← List.take_append_drop 24 (words1.drop 24), List.all_append, w_t2, ← List.take_append_drop 24 ((words1.drop 24).drop 24), List.all_append, w_t3, ← List.take_append_drop 24 (((words1.drop 24).drop 24).drop 24), List.all_append, w_t4, ← List.take_append_drop 24 ((((words1.drop 24).drop 24).drop 24).drop 24), List.all_append, w_t5, ← List.take_append_drop 24 (((((words1.drop 24).drop 24).drop 24).drop 24).drop 24), List.all_append, w_t6, ← List.take_append_drop 24 ((((((words1.drop 24).drop 24).drop 24).drop 24).drop 24).drop 24), List.all_append, w_t7, w_t8]
  rfl
set_option maxRecDepth 65536 in
theorem w_case : (Jvm.Cond.and given_1 narrow_1).before args0 about1 = true := by decide +kernel
theorem w_applies : (headSpec (Jvm.Cond.code x code maxLocals ret :: tables_1) room_1).applies x e0.platform about1 = true :=
  (Spec.applies_iff w_frames).mpr ⟨w_running, w_runnable, w_alone, w_named, w_hears, w_ripe, w_room, w_tables⟩
theorem atStart : AtStart classFile x code maxLocals ret World_1 tables_1 room_1 Calls_1 rest_1 Pre_1 launch0 p0 e0 about1 theMethod args0 below0 :=
  ⟨lists_1, trivial, launch0.admits_env _ _ _, launch0.least_env, fairChoices_fair.cas, fairChoices_fair.clock, w_frames, w_args, w_heap, w_applies, trivial, trivial, w_case⟩
end start1
theorem witness_1 : WitnessClaimed_1 := ⟨start1.p0, start1.e0, start1.about1, start1.theMethod, start1.args0, start1.below0, start1.atStart⟩
end Jvm.Pilot.@@N@@
