import JvmDerived
import JvmDerived.Pilot.@@N@@Statement
import JvmDerived.Pilot.@@N@@Code
set_option linter.unusedVariables false
set_option linter.unusedSimpArgs false
namespace Jvm.Own
open Sem ClassFile Op Lib Jvm.Stand Jvm.Free Jvm.LawKit Jvm.RoadKit
/-! OWN 1: words of the sheet, resolved -/
abbrev AHeap := List (FieldType × List Value)
abbrev Ws := List Jvm.Cond
def rFld (ws : Ws) (own : String) (i : Nat) : Option (String × String × String) :=
  ws.findSome? fun d => match d with
    | .fieldLink o j C n t => if o = own ∧ j = i then some (C, n, t) else none
    | _ => none
def rCls (ws : Ws) (own : String) (i : Nat) : Option String :=
  ws.findSome? fun d => match d with
    | .classLink o j C => if o = own ∧ j = i then some C else none
    | _ => none
def rMth (ws : Ws) (own : String) (i : Nat) : Option MethodName :=
  ws.findSome? fun d => match d with
    | .methodLink o j y => if o = own ∧ j = i then some y else none
    | _ => none
def rCon (ws : Ws) (own : String) (i : Nat) : Option Int32 :=
  ws.findSome? fun d => match d with
    | .constant o j v => if o = own ∧ j = i then some v else none
    | _ => none
def rConL (ws : Ws) (own : String) (i : Nat) : Option Int64 :=
  ws.findSome? fun d => match d with
    | .constantLong o j v => if o = own ∧ j = i then some v else none
    | _ => none
def rInst (ws : Ws) (C : String) : Option Nat :=
  ws.findSome? fun d => match d with
    | .instantiable c n => if c = C then some n else none
    | _ => none
def rCode (ws : Ws) (y : MethodName) : Option (ByteArray × Nat × Option FieldType) :=
  ws.findSome? fun d => match d with
    | .code z b m r => if z = y then some (b, m, r) else none
    | _ => none
def hasInit (ws : Ws) (C : String) : Bool := ws.any fun d => match d with | .initialized c => c == C | _ => false
def hasArr (ws : Ws) (t : FieldType) : Bool := ws.any fun d => match d with | .arrayClass c => decide (c = t) | _ => false
def hasStat (ws : Ws) (y : MethodName) : Bool := ws.any fun d => match d with | .static z => decide (z = y) | _ => false
def hasIM (ws : Ws) (y : MethodName) : Bool := ws.any fun d => match d with | .instanceMethod z => decide (z = y) | _ => false
def hasPriv (ws : Ws) (y : MethodName) : Bool := ws.any fun d => match d with | .privateMethod z => decide (z = y) | _ => false
def hasDecl (ws : Ws) (y : MethodName) : Bool := ws.any fun d => match d with | .declares z => decide (z = y) | _ => false
def hasSel (ws : Ws) (y : MethodName) : Bool := ws.any fun d => match d with | .selects c z z' => decide (c = y.cls ∧ z = y ∧ z' = y) | _ => false
def hasLays (ws : Ws) (C n t : String) : Bool := ws.any fun d => match d with | .lays c o n' t' => decide (c = C ∧ o = C ∧ n' = n ∧ t' = t) | _ => false
def hasLaysF (ws : Ws) (C n t : String) : Bool := ws.any fun d => match d with | .laysFinal c o n' t' => decide (c = C ∧ o = C ∧ n' = n ∧ t' = t) | _ => false
def layE (C : String) : Jvm.Cond → Option (String × String)
  | .lays c o n t => if c = C ∧ o = C ∧ (parseFieldDescriptor t).isSome = true then some (n, t) else none
  | .laysFinal c o n t => if c = C ∧ o = C ∧ (parseFieldDescriptor t).isSome = true then some (n, t) else none
  | _ => none
def olay (ws : Ws) (C : String) : List (String × String) := ws.filterMap (layE C)
def idx (x : String × String) : List (String × String) → Option Nat
  | [] => none
  | y :: r => if y = x then some 0 else (idx x r).map (· + 1)
def fidx (ws : Ws) (C n t : String) : Option Nat := idx (n, t) (olay ws C)
def gfR (ws : Ws) (own : String) (i : Nat) : Option (String × Nat) :=
  match rFld ws own i with
  | some (C, n, t) => (fidx ws C n t).map fun j => (C, j)
  | none => none
def pfR (ws : Ws) (own mn : String) (i : Nat) : Option (String × Nat × FieldType) :=
  match rFld ws own i with
  | some (C, n, t) =>
    match fidx ws C n t, parseFieldDescriptor t with
    | some j, some ty => if (hasLays ws C n t || (hasLaysF ws C n t && own == C && mn == "<init>")) && (rInst ws C).isSome && (olay ws C).all (fun q => q.1 != n || q.2 == t) then some (C, j, ty) else none
    | _, _ => none
  | none => none
section Res
variable {ws : Ws} {own C n t : String} {i : Nat} {y : MethodName}
theorem rFld_mem (h : rFld ws own i = some (C, n, t)) : Jvm.Cond.fieldLink own i C n t ∈ ws := by
  obtain ⟨d, hd, e⟩ := List.exists_of_findSome?_eq_some h
  split at e
  · split at e
    · rename_i q; obtain ⟨rfl, rfl⟩ := q; cases e; exact hd
    · cases e
  · cases e
theorem rCls_mem (h : rCls ws own i = some C) : Jvm.Cond.classLink own i C ∈ ws := by
  obtain ⟨d, hd, e⟩ := List.exists_of_findSome?_eq_some h
  split at e
  · split at e
    · rename_i q; obtain ⟨rfl, rfl⟩ := q; cases e; exact hd
    · cases e
  · cases e
theorem rMth_mem (h : rMth ws own i = some y) : Jvm.Cond.methodLink own i y ∈ ws := by
  obtain ⟨d, hd, e⟩ := List.exists_of_findSome?_eq_some h
  split at e
  · split at e
    · rename_i q; obtain ⟨rfl, rfl⟩ := q; cases e; exact hd
    · cases e
  · cases e
theorem rCon_mem {v : Int32} (h : rCon ws own i = some v) : Jvm.Cond.constant own i v ∈ ws := by
  obtain ⟨d, hd, e⟩ := List.exists_of_findSome?_eq_some h
  split at e
  · split at e
    · rename_i q; obtain ⟨rfl, rfl⟩ := q; cases e; exact hd
    · cases e
  · cases e
theorem rConL_mem {v : Int64} (h : rConL ws own i = some v) : Jvm.Cond.constantLong own i v ∈ ws := by
  obtain ⟨d, hd, e⟩ := List.exists_of_findSome?_eq_some h
  split at e
  · split at e
    · rename_i q; obtain ⟨rfl, rfl⟩ := q; cases e; exact hd
    · cases e
  · cases e
theorem rInst_mem {k : Nat} (h : rInst ws C = some k) : Jvm.Cond.instantiable C k ∈ ws := by
  obtain ⟨d, hd, e⟩ := List.exists_of_findSome?_eq_some h
  split at e
  · split at e
    · rename_i q; subst q; cases e; exact hd
    · cases e
  · cases e
theorem rCode_mem {b : ByteArray} {k : Nat} {r : Option FieldType} (h : rCode ws y = some (b, k, r)) : Jvm.Cond.code y b k r ∈ ws := by
  obtain ⟨d, hd, e⟩ := List.exists_of_findSome?_eq_some h
  split at e
  · split at e
    · rename_i q; subst q; cases e; exact hd
    · cases e
  · cases e
theorem hasInit_mem (h : hasInit ws C = true) : Jvm.Cond.initialized C ∈ ws := by
  obtain ⟨d, hd, e⟩ := List.any_eq_true.mp h
  split at e
  · rw [beq_iff_eq] at e; subst e; exact hd
  · cases e
theorem hasArr_mem {ty : FieldType} (h : hasArr ws ty = true) : Jvm.Cond.arrayClass ty ∈ ws := by
  obtain ⟨d, hd, e⟩ := List.any_eq_true.mp h
  split at e
  · have e := of_decide_eq_true e; subst e; exact hd
  · cases e
theorem hasStat_mem (h : hasStat ws y = true) : Jvm.Cond.static y ∈ ws := by
  obtain ⟨d, hd, e⟩ := List.any_eq_true.mp h
  split at e
  · have e := of_decide_eq_true e; subst e; exact hd
  · cases e
theorem hasIM_mem (h : hasIM ws y = true) : Jvm.Cond.instanceMethod y ∈ ws := by
  obtain ⟨d, hd, e⟩ := List.any_eq_true.mp h
  split at e
  · have e := of_decide_eq_true e; subst e; exact hd
  · cases e
theorem hasPriv_mem (h : hasPriv ws y = true) : Jvm.Cond.privateMethod y ∈ ws := by
  obtain ⟨d, hd, e⟩ := List.any_eq_true.mp h
  split at e
  · have e := of_decide_eq_true e; subst e; exact hd
  · cases e
theorem hasDecl_mem (h : hasDecl ws y = true) : Jvm.Cond.declares y ∈ ws := by
  obtain ⟨d, hd, e⟩ := List.any_eq_true.mp h
  split at e
  · have e := of_decide_eq_true e; subst e; exact hd
  · cases e
theorem hasSel_mem (h : hasSel ws y = true) : Jvm.Cond.selects y.cls y y ∈ ws := by
  obtain ⟨d, hd, e⟩ := List.any_eq_true.mp h
  split at e
  · obtain ⟨rfl, rfl, rfl⟩ := of_decide_eq_true e; exact hd
  · cases e
theorem hasLays_mem (h : hasLays ws C n t = true) : Jvm.Cond.lays C C n t ∈ ws := by
  obtain ⟨d, hd, e⟩ := List.any_eq_true.mp h
  split at e
  · obtain ⟨rfl, rfl, rfl, rfl⟩ := of_decide_eq_true e; exact hd
  · cases e
theorem hasLaysF_mem (h : hasLaysF ws C n t = true) : Jvm.Cond.laysFinal C C n t ∈ ws := by
  obtain ⟨d, hd, e⟩ := List.any_eq_true.mp h
  split at e
  · obtain ⟨rfl, rfl, rfl, rfl⟩ := of_decide_eq_true e; exact hd
  · cases e
theorem lay_mem (h : (n, t) ∈ olay ws C) : (Jvm.Cond.lays C C n t ∈ ws ∨ Jvm.Cond.laysFinal C C n t ∈ ws) ∧ ∃ ty, parseFieldDescriptor t = some ty := by
  obtain ⟨d, hd, e⟩ := List.mem_filterMap.mp h
  unfold layE at e
  split at e
  · split at e
    · rename_i q; obtain ⟨rfl, rfl, q⟩ := q; cases e; exact ⟨Or.inl hd, Option.isSome_iff_exists.mp q⟩
    · cases e
  · split at e
    · rename_i q; obtain ⟨rfl, rfl, q⟩ := q; cases e; exact ⟨Or.inr hd, Option.isSome_iff_exists.mp q⟩
    · cases e
  · cases e
theorem idx_get {x : String × String} : ∀ {l : List (String × String)} {j : Nat}, idx x l = some j → l[j]? = some x
  | [], _, h => by cases h
  | y :: r, j, h => by
    unfold idx at h
    split at h
    · rename_i q; cases h; simp [q]
    · obtain ⟨j', h', rfl⟩ := Option.map_eq_some_iff.mp h
      simpa using idx_get h'
theorem fidx_mem {j : Nat} (h : fidx ws C n t = some j) : (n, t) ∈ olay ws C := List.mem_of_getElem? (idx_get h)
theorem fidx_inj {n' t' : String} {j : Nat} (h : fidx ws C n t = some j) (h' : fidx ws C n' t' = some j) : n = n' ∧ t = t' := by
  have := (idx_get h).symm.trans (idx_get h')
  simpa using this
theorem gfR_some {j : Nat} (h : gfR ws own i = some (C, j)) : ∃ n t, rFld ws own i = some (C, n, t) ∧ fidx ws C n t = some j := by
  unfold gfR at h
  split at h
  · rename_i C' n' t' q
    obtain ⟨j', h', e⟩ := Option.map_eq_some_iff.mp h
    cases e; exact ⟨_, _, q, h'⟩
  · cases h
theorem pfR_some {mn : String} {j : Nat} {ty : FieldType} (h : pfR ws own mn i = some (C, j, ty)) : ∃ n t, rFld ws own i = some (C, n, t) ∧ fidx ws C n t = some j ∧ parseFieldDescriptor t = some ty ∧
    (Jvm.Cond.lays C C n t ∈ ws ∨ (Jvm.Cond.laysFinal C C n t ∈ ws ∧ own = C ∧ mn = "<init>")) ∧ (∃ k, Jvm.Cond.instantiable C k ∈ ws) ∧ ∀ n' t', (n', t') ∈ olay ws C → n' ≠ n ∨ t' = t := by
  unfold pfR at h
  split at h
  · rename_i C' n' t' q
    split at h
    · rename_i j' ty' q1 q2
      split at h
      · rename_i g
        cases h
        simp only [Bool.and_eq_true, Bool.or_eq_true, beq_iff_eq, List.all_eq_true, bne_iff_ne, ne_eq] at g
        obtain ⟨⟨g1, g2⟩, g3⟩ := g
        obtain ⟨k, hk⟩ := Option.isSome_iff_exists.mp g2
        refine ⟨n', t', q, q1, q2, ?_, ⟨k, rInst_mem hk⟩, fun a b hab => g3 (a, b) hab⟩
        rcases g1 with g1 | ⟨⟨g1, g4⟩, g5⟩
        · exact Or.inl (hasLays_mem g1)
        · exact Or.inr ⟨hasLaysF_mem g1, g4, g5⟩
      · cases h
    · cases h
  · cases h
end Res
end Jvm.Own
namespace Jvm.Own
open Sem ClassFile Op Lib Jvm.Stand Jvm.Free Jvm.LawKit Jvm.RoadKit
/-! OWN 2: the abstract machine -/
abbrev XR := Option (Nat × List Slot × List Value)
def chk {α : Type} (a b : Nat) (x : Option α) : Option α := if a = b then x else none
def isI : Value → Bool | .int _ => true | _ => false
def isL : Value → Bool | .long _ => true | _ => false
def stl (ls : List Slot) (i : Nat) (v : Value) : Option (List Slot) := (storeLocals ls.toArray i v).map Array.toList
def ldV (p : Value → Bool) (nx i : Nat) (ls : List Slot) (st : List Value) : XR :=
  match ls[i]? with
  | some (.val v) => if p v = true then some (nx, ls, v :: st) else none
  | _ => none
def stV (p : Value → Bool) (nx i : Nat) (ls : List Slot) : List Value → XR
  | v :: r => if p v = true then (stl ls i v).map fun l' => (nx, l', r) else none
  | [] => none
def b2 (f : Int32 → Int32 → Int32) (nx : Nat) (ls : List Slot) : List Value → XR
  | .int y :: .int x :: r => some (nx, ls, .int (f x y) :: r)
  | _ => none
def d2 (f : Int32 → Int32 → Int32) (nx : Nat) (ls : List Slot) : List Value → XR
  | .int y :: .int x :: r => if y = 0 then none else some (nx, ls, .int (f x y) :: r)
  | _ => none
def u1 (f : Int32 → Int32) (nx : Nat) (ls : List Slot) : List Value → XR
  | .int x :: r => some (nx, ls, .int (f x) :: r)
  | _ => none
def l2 (f : Int64 → Int64 → Int64) (nx : Nat) (ls : List Slot) : List Value → XR
  | .long y :: .long x :: r => some (nx, ls, .long (f x y) :: r)
  | _ => none
def lsh (f : Int64 → Int32 → Int64) (nx : Nat) (ls : List Slot) : List Value → XR
  | .int y :: .long x :: r => some (nx, ls, .long (f x y) :: r)
  | _ => none
def jmp (pc : Nat) (o : Int) : Option Nat := if 0 ≤ (pc : Int) + o then some ((pc : Int) + o).toNat else none
def br (c : Bool) (pc : Nat) (o : Int) (ls : List Slot) (r : List Value) : XR :=
  if c = true then (jmp pc o).map fun q => (q, ls, r) else some (pc + 3, ls, r)
def sw (pc : Nat) (dflt low high : Int) (offs : Array Int) (ls : List Slot) : List Value → XR
  | .int i :: r => if i.toInt < low ∨ i.toInt > high then (jmp pc dflt).map fun q => (q, ls, r) else
      match offs[(i.toInt - low).toNat]? with
      | some o => (jmp pc o).map fun q => (q, ls, r)
      | none => none
  | _ => none
def xstep (ins : Instr) (len pc : Nat) (ls : List Slot) (st : List Value) : XR :=
  match ins with
  | .aload_n i => chk len 1 (ldV Value.isRef (pc + 1) i.val ls st)
  | .aload i => chk len 2 (ldV Value.isRef (pc + 2) i ls st)
  | .iload_n i => chk len 1 (ldV isI (pc + 1) i.val ls st)
  | .iload i => chk len 2 (ldV isI (pc + 2) i ls st)
  | .lload_n i => chk len 1 (ldV isL (pc + 1) i.val ls st)
  | .lload i => chk len 2 (ldV isL (pc + 2) i ls st)
  | .astore_n i => chk len 1 (stV Value.isRef (pc + 1) i.val ls st)
  | .astore i => chk len 2 (stV Value.isRef (pc + 2) i ls st)
  | .istore_n i => chk len 1 (stV isI (pc + 1) i.val ls st)
  | .istore i => chk len 2 (stV isI (pc + 2) i ls st)
  | .lstore_n i => chk len 1 (stV isL (pc + 1) i.val ls st)
  | .lstore i => chk len 2 (stV isL (pc + 2) i ls st)
  | .iconst i => chk len 1 (some (pc + 1, ls, .int (Int32.ofInt i) :: st))
  | .bipush i => chk len 2 (some (pc + 2, ls, .int (Int8.ofInt i).toInt32 :: st))
  | .sipush i => chk len 3 (some (pc + 3, ls, .int (Int16.ofInt i).toInt32 :: st))
  | .lconst i => chk len 1 (some (pc + 1, ls, .long (Int64.ofNat i) :: st))
  | .iadd => chk len 1 (b2 (fun x y => x + y) (pc + 1) ls st)
  | .isub => chk len 1 (b2 (fun x y => x - y) (pc + 1) ls st)
  | .imul => chk len 1 (b2 (fun x y => x * y) (pc + 1) ls st)
  | .iand => chk len 1 (b2 (fun x y => x &&& y) (pc + 1) ls st)
  | .ior => chk len 1 (b2 (fun x y => x ||| y) (pc + 1) ls st)
  | .ixor => chk len 1 (b2 (fun x y => x ^^^ y) (pc + 1) ls st)
  | .ishl => chk len 1 (b2 (fun x y => x <<< (y &&& 31)) (pc + 1) ls st)
  | .ishr => chk len 1 (b2 (fun x y => x >>> (y &&& 31)) (pc + 1) ls st)
  | .iushr => chk len 1 (b2 XT.ushr (pc + 1) ls st)
  | .idiv => chk len 1 (d2 (fun x y => x / y) (pc + 1) ls st)
  | .irem => chk len 1 (d2 (fun x y => x % y) (pc + 1) ls st)
  | .ineg => chk len 1 (u1 (fun x => -x) (pc + 1) ls st)
  | .i2b => chk len 1 (u1 (fun x => x.toInt8.toInt32) (pc + 1) ls st)
  | .i2c => chk len 1 (u1 (fun x => x.toUInt32.toUInt16.toUInt32.toInt32) (pc + 1) ls st)
  | .ladd => chk len 1 (l2 (fun x y => x + y) (pc + 1) ls st)
  | .lsub => chk len 1 (l2 (fun x y => x - y) (pc + 1) ls st)
  | .lmul => chk len 1 (l2 (fun x y => x * y) (pc + 1) ls st)
  | .land => chk len 1 (l2 (fun x y => x &&& y) (pc + 1) ls st)
  | .lor => chk len 1 (l2 (fun x y => x ||| y) (pc + 1) ls st)
  | .lxor => chk len 1 (l2 (fun x y => x ^^^ y) (pc + 1) ls st)
  | .lshl => chk len 1 (lsh (fun x y => x <<< (y.toInt64 &&& 63)) (pc + 1) ls st)
  | .lshr => chk len 1 (lsh (fun x y => x >>> (y.toInt64 &&& 63)) (pc + 1) ls st)
  | .lushr => chk len 1 (lsh XT.ushrL (pc + 1) ls st)
  | .lneg => chk len 1 (match st with | .long x :: r => some (pc + 1, ls, .long (-x) :: r) | _ => none)
  | .i2l => chk len 1 (match st with | .int x :: r => some (pc + 1, ls, .long x.toInt64 :: r) | _ => none)
  | .l2i => chk len 1 (match st with | .long x :: r => some (pc + 1, ls, .int x.toInt32 :: r) | _ => none)
  | .lcmp => chk len 1 (match st with | .long y :: .long x :: r => some (pc + 1, ls, .int (XT.cmpL x y) :: r) | _ => none)
  | .iinc i cst => chk len 3 (match ls[i]? with | some (.val (.int x)) => (stl ls i (.int (x + Int32.ofInt cst))).map fun l' => (pc + 3, l', st) | _ => none)
  | .dup => chk len 1 (match st with | x :: r => if x.category = 1 then some (pc + 1, ls, x :: x :: r) else none | _ => none)
  | .dup2 => chk len 1 (match st with
      | .long x :: r => some (pc + 1, ls, .long x :: .long x :: r)
      | x :: y :: r => if x.category = 1 ∧ y.category = 1 then some (pc + 1, ls, x :: y :: x :: y :: r) else none
      | _ => none)
  | .pop => chk len 1 (match st with | x :: r => if x.category = 1 then some (pc + 1, ls, r) else none | _ => none)
  | .goto o => chk len 3 ((jmp pc o).map fun q => (q, ls, st))
  | .ifCond cd o => chk len 3 (match st with | .int x :: r => br (ifCond.holds cd x) pc o ls r | _ => none)
  | .if_icmp cd o => chk len 3 (match st with | .int y :: .int x :: r => br (if_icmp.holds cd x y) pc o ls r | _ => none)
  | .tableswitch dflt low high offs => sw pc dflt low high offs ls st
  | _ => none
abbrev HR := Option (Nat × List Value × AHeap)
def putv : FieldType → Value → Option Value
  | .int, .int x => some (.int x)
  | .boolean, .int x => some (.int (nar .boolean x))
  | .byte, .int x => some (.int (nar .byte x))
  | .char, .int x => some (.int (nar .char x))
  | .short, .int x => some (.int (nar .short x))
  | .long, .long x => some (.long x)
  | .array _, .ref a => some (.ref a)
  | _, _ => none
def dflt (q : String × String) : Value := match parseFieldDescriptor q.2 with | some ty => defaultValue ty | none => .null
def hGet (ws : Ws) (own : String) (i pc : Nat) (H : AHeap) : List Value → HR
  | .ref a :: r =>
    match gfR ws own i, H[a]? with
    | some (C, j), some (.object C', vs) => if C = C' then (vs[j]?).map fun v => (pc + 3, v :: r, H) else none
    | _, _ => none
  | _ => none
def hPut (ws : Ws) (k : Nat) (own mn : String) (i pc : Nat) (H : AHeap) : List Value → HR
  | v :: .ref a :: r =>
    match pfR ws own mn i, H[a]? with
    | some (C, j, ty), some (.object C', vs) => if C = C' ∧ k ≤ a ∧ j < vs.length then (putv ty v).map fun v' => (pc + 3, r, H.set a (.object C', vs.set j v')) else none
    | _, _ => none
  | _ => none
def hNew (ws : Ws) (own : String) (i pc : Nat) (H : AHeap) (st : List Value) : HR :=
  match rCls ws own i with
  | some C => if (rInst ws C).isSome = true ∧ hasInit ws C = true then some (pc + 3, .ref H.length :: st, H ++ [(.object C, (olay ws C).map dflt)]) else none
  | none => none
def hNewA (ws : Ws) (aty : ArrayType) (pc : Nat) (H : AHeap) : List Value → HR
  | .int n :: r => if hasArr ws (newarray.typeOf aty) = true ∧ ¬ n < 0 ∧ n.toNatClampNeg * 8 ≤ 536870912 then
      some (pc + 2, .ref H.length :: r, H ++ [(.array (newarray.typeOf aty), List.replicate n.toNatClampNeg (defaultValue (newarray.typeOf aty)))]) else none
  | _ => none
def hLd (ok : FieldType → Bool) (pc : Nat) (H : AHeap) : List Value → HR
  | .int j :: .ref a :: r =>
    match H[a]? with
    | some (.array ty, vs) => if ok ty = true ∧ ¬ j < 0 then (vs[j.toNatClampNeg]?).map fun v => (pc + 1, v :: r, H) else none
    | _ => none
  | _ => none
def hSt (ok : FieldType → Bool) (k pc : Nat) (H : AHeap) : List Value → HR
  | v :: .int j :: .ref a :: r =>
    match H[a]? with
    | some (.array ty, vs) => if ok ty = true ∧ k ≤ a ∧ ¬ j < 0 ∧ j.toNatClampNeg < vs.length then (putv ty v).map fun v' => (pc + 1, r, H.set a (.array ty, vs.set j.toNatClampNeg v')) else none
    | _ => none
  | _ => none
def hLen (pc : Nat) (H : AHeap) : List Value → HR
  | .ref a :: r =>
    match H[a]? with
    | some (.array _, vs) => some (pc + 1, .int vs.length.toInt32 :: r, H)
    | _ => none
  | _ => none
def okT (t u : FieldType) : Bool := decide (u = t)
def okB (u : FieldType) : Bool := decide (u = .byte) || decide (u = .boolean)
def hstep (ws : Ws) (k : Nat) (y : MethodName) (ins : Instr) (len pc : Nat) (st : List Value) (H : AHeap) : HR :=
  match ins with
  | .getfield i => chk len 3 (hGet ws y.cls i pc H st)
  | .putfield i => chk len 3 (hPut ws k y.cls y.name i pc H st)
  | .new i => chk len 3 (hNew ws y.cls i pc H st)
  | .newarray aty => chk len 2 (hNewA ws aty pc H st)
  | .iaload => chk len 1 (hLd (okT .int) pc H st)
  | .caload => chk len 1 (hLd (okT .char) pc H st)
  | .laload => chk len 1 (hLd (okT .long) pc H st)
  | .baload => chk len 1 (hLd okB pc H st)
  | .iastore => chk len 1 (hSt (okT .int) k pc H st)
  | .castore => chk len 1 (hSt (okT .char) k pc H st)
  | .lastore => chk len 1 (hSt (okT .long) k pc H st)
  | .bastore => chk len 1 (hSt okB k pc H st)
  | .arraylength => chk len 1 (hLen pc H st)
  | .ldc i => chk len 2 ((rCon ws y.cls i).map fun v => (pc + 2, .int v :: st, H))
  | .ldc_w i => chk len 3 ((rCon ws y.cls i).map fun v => (pc + 3, .int v :: st, H))
  | .ldc2_w i => chk len 3 ((rConL ws y.cls i).map fun v => (pc + 3, .long v :: st, H))
  | _ => none
def ent : List Value → List Slot
  | [] => []
  | v :: r => if v.category = 2 then .val v :: .second :: ent r else .val v :: ent r
def entry (as : List Value) (mx : Nat) : List Slot := ent as ++ List.replicate (mx - (ent as).length) .unset
def wsum (st : List Value) : Nat := (st.map fun v => v.category).sum
abbrev Dn := List (MethodName × Nat × Nat)
def dnOf (dn : Dn) (y : MethodName) : Option (Nat × Nat) := dn.findSome? fun q => if q.1 = y then some q.2 else none
/-- what a methodref says: callee, its code, max_locals, return, number of parameters, slack for what lies under -/
def cR (ws : Ws) (dn : Dn) (y : MethodName) (i : Nat) : Option (MethodName × ByteArray × Nat × Option FieldType × Nat × Nat) :=
  match rMth ws y.cls i with
  | none => none
  | some y' =>
    match rCode ws y', dnOf dn y', dnOf dn y, parseMethodDescriptor y'.desc with
    | some (b, mx, r), some (f', l'), some (f, l), some sig =>
      if hasInit ws y'.cls = true ∧ Jvm.plainName y'.cls = true ∧ y'.cls ≠ "java/lang/invoke/MethodHandle" ∧ y'.cls ≠ "java/lang/invoke/VarHandle" ∧ f' + 1 ≤ f ∧ mx + 11 + l' ≤ l then
        some (y', b, mx, r, sig.parameters.length, l - (mx + 11 + l')) else none
    | _, _, _, _ => none
def sR (ws : Ws) (dn : Dn) (y : MethodName) (i : Nat) : Option (MethodName × ByteArray × Nat × Option FieldType × Nat × Nat) :=
  match cR ws dn y i with
  | some q => if hasStat ws q.1 = true then some q else none
  | none => none
def nR (ws : Ws) (dn : Dn) (y : MethodName) (i : Nat) : Option (MethodName × ByteArray × Nat × Option FieldType × Nat × Nat) :=
  match cR ws dn y i with
  | some q => if q.1.name = "<init>" ∧ hasIM ws q.1 = true ∧ q.2.2.2.1 = none then some q else none
  | none => none
/-- the first: is it private? -/
def vR (ws : Ws) (dn : Dn) (y : MethodName) (i : Nat) : Option (Bool × MethodName × ByteArray × Nat × Option FieldType × Nat × Nat) :=
  match cR ws dn y i with
  | some q => if hasIM ws q.1 = true then
      (if hasPriv ws q.1 = true ∧ (rInst ws q.1.cls).isSome = true then some (true, q) else if hasDecl ws q.1 = true ∧ hasSel ws q.1 = true then some (false, q) else none) else none
  | none => none
/-- Object.<init>: how many words may lie under it -/
def oR (ws : Ws) (dn : Dn) (y : MethodName) (i : Nat) : Option Nat :=
  match rMth ws y.cls i, rCode ws Lib.objectInit, dnOf dn y with
  | some y', some (b, mx, r), some (f, l) =>
    if y' = Lib.objectInit ∧ hasIM ws Lib.objectInit = true ∧ b.data = #[0xb1] ∧ mx = 1 ∧ r = none ∧ 1 ≤ f ∧ 12 ≤ l then some (l - 12) else none
  | _, _, _ => none
abbrev Call := MethodName × ByteArray × Option FieldType × List Slot × List Value
/-- returns and calls -/
def cstep (ws : Ws) (dn : Dn) (y : MethodName) (ret : Option FieldType) (ins : Instr) (len pc : Nat) (ls : List Slot) (st : List Value) (H : AHeap) : Option (Option Value ⊕ (Nat × List Slot × List Value × AHeap) ⊕ Call) :=
  match ins with
  | .ireturn => chk len 1 (match st, ret with
      | .int z :: _, some t => if t = .int ∨ t = .boolean ∨ t = .byte ∨ t = .char ∨ t = .short then some (.inl (some (.int (nar t z)))) else none
      | _, _ => none)
  | .lreturn => chk len 1 (match st, ret with
      | [.long z], some .long => some (.inl (some (.long z)))
      | _, _ => none)
  | .return_ => chk len 1 (match st, ret with
      | [], none => some (.inl none)
      | _, _ => none)
  | .invokestatic i => chk len 3 (match sR ws dn y i with
      | some (y', b, mx, r, na, sl) =>
        if na ≤ st.length ∧ wsum (st.drop na) ≤ sl ∧ (ent (st.take na).reverse).length ≤ mx then
          some (.inr (.inr (y', b, r, entry (st.take na).reverse mx, st.drop na)))
        else none
      | none => none)
  | .invokespecial i => chk len 3 (match oR ws dn y i with
      | some sl => (match st with
          | .ref _ :: r => if wsum r ≤ sl then some (.inr (.inl (pc + 3, ls, r, H))) else none
          | _ => none)
      | none => match nR ws dn y i with
        | some (y', b, mx, r, na, sl) =>
          (match st.drop na with
          | .ref a :: rest =>
            if wsum rest ≤ sl ∧ (ent (.ref a :: (st.take na).reverse)).length ≤ mx ∧ na ≤ st.length then
              some (.inr (.inr (y', b, r, entry (.ref a :: (st.take na).reverse) mx, rest)))
            else none
          | _ => none)
        | none => none)
  | .invokevirtual i => chk len 3 (match vR ws dn y i with
      | some (pv, y', b, mx, r, na, sl) =>
        (match st.drop na with
        | .ref a :: rest =>
          (match H[a]? with
          | some (.object C, _) =>
            if (pv = true ∨ C = y'.cls) ∧ wsum rest ≤ sl ∧ (ent (.ref a :: (st.take na).reverse)).length ≤ mx ∧ na ≤ st.length then
              some (.inr (.inr (y', b, r, entry (.ref a :: (st.take na).reverse) mx, rest)))
            else none
          | _ => none)
        | _ => none)
      | none => none)
  | _ => none
/-- what the machine does next: it returns, it steps, it calls -/
def act (ws : Ws) (dn : Dn) (k : Nat) (y : MethodName) (bytes : ByteArray) (ret : Option FieldType) (pc : Nat) (ls : List Slot) (st : List Value) (H : AHeap) : Option (Option Value ⊕ (Nat × List Slot × List Value × AHeap) ⊕ Call) :=
  match decode bytes pc with
  | .error _ => none
  | .ok (ins, len) =>
    match xstep ins len pc ls st with
    | some q => some (.inr (.inl (q.1, q.2.1, q.2.2, H)))
    | none => match hstep ws k y ins len pc st H with
      | some q => some (.inr (.inl (q.1, ls, q.2.1, q.2.2)))
      | none => cstep ws dn y ret ins len pc ls st H
def run (ws : Ws) (dn : Dn) (k : Nat) : Nat → MethodName → ByteArray → Option FieldType → Nat → List Slot → List Value → AHeap → Option (Option Value × AHeap)
  | 0, _, _, _, _, _, _, _ => none
  | n + 1, y, bytes, ret, pc, ls, st, H =>
    match act ws dn k y bytes ret pc ls st H with
    | none => none
    | some (.inl v) => some (v, H)
    | some (.inr (.inl (pc', ls', st', H'))) => run ws dn k n y bytes ret pc' ls' st' H'
    | some (.inr (.inr (y', b, r, en, rest))) =>
      match run ws dn k n y' b r 0 en [] H with
      | some (v, H1) => run ws dn k n y bytes ret (pc + 3) ls (v.toList ++ rest) H1
      | none => none
end Jvm.Own
namespace Jvm.Own
open Sem ClassFile Op Lib Jvm.Stand Jvm.Free Jvm.LawKit Jvm.RoadKit
/-! OWN 3: the abstract machine's plain steps are the machine's -/
def ren (f : Nat → Nat) : Value → Value
  | .ref a => .ref (f a)
  | v => v
def renS (f : Nat → Nat) : Slot → Slot
  | .val v => .val (ren f v)
  | s => s
abbrev fr (f : Nat → Nat) (m : MethodId) (pc : Nat) (ls : List Slot) (st : List Value) : JFrame := mkF m pc (ls.map (renS f)).toArray (st.map (ren f))
theorem ren_cat (f : Nat → Nat) (v : Value) : (ren f v).category = v.category := by cases v <;> rfl
theorem ren_isRef (f : Nat → Nat) (v : Value) : (ren f v).isRef = v.isRef := by cases v <;> rfl
theorem isI_int {v : Value} (h : isI v = true) : ∃ x, v = .int x := by cases v <;> first | exact ⟨_, rfl⟩ | cases h
theorem isL_long {v : Value} (h : isL v = true) : ∃ x, v = .long x := by cases v <;> first | exact ⟨_, rfl⟩ | cases h
theorem chk_some {α : Type} {a b : Nat} {x : Option α} {r : α} (h : chk a b x = some r) : a = b ∧ x = some r := by
  unfold chk at h
  split at h
  · exact ⟨by assumption, h⟩
  · cases h
theorem loc_get {f : Nat → Nat} {ls : List Slot} {i : Nat} {s : Slot} (h : ls[i]? = some s) : ((ls.map (renS f)).toArray)[i]? = some (renS f s) := by
  rw [List.getElem?_toArray, List.getElem?_map, h]; rfl
theorem setAt_ren (f : Nat → Nat) (l : Array Slot) (i : Nat) (x : Slot) : setAt (l.map (renS f)) i (renS f x) = (setAt l i x).map fun a => a.map (renS f) := by
  unfold setAt
  rw [Array.size_map]
  split
  · rw [Option.map_some, Array.map_setIfInBounds]
  · rfl
theorem storeSelf_ren (f : Nat → Nat) (l : Array Slot) (i : Nat) (v : Value) : storeSelf (l.map (renS f)) i (ren f v) = (storeSelf l i v).map fun a => a.map (renS f) := by
  have h0 : setAt (l.map (renS f)) i (.val (ren f v)) = _ := setAt_ren f l i (.val v)
  simp only [storeSelf, h0, ren_cat]
  cases setAt l i (.val v) with
  | none => rfl
  | some l1 =>
    simp only [Option.map_some, Option.bind_eq_bind, Option.bind_some, bind_pure_comp]
    split
    · rw [Array.getElem?_map]
      cases l1[i + 1]? with
      | none => rfl
      | some s =>
        simp only [Option.map_some, Option.bind_some]
        cases s with
        | unset => exact setAt_ren f l1 (i + 1) .second
        | second => exact setAt_ren f l1 (i + 1) .second
        | val w =>
          simp only [renS, ren_cat]
          split
          · have h1 : setAt (l1.map (renS f)) (i + 2) .unset = _ := setAt_ren f l1 (i + 2) .unset
            rw [h1]
            cases setAt l1 (i + 2) .unset with
            | none => rfl
            | some l2 => exact setAt_ren f l2 (i + 1) .second
          · exact setAt_ren f l1 (i + 1) .second
    · rfl
theorem storeLocals_ren (f : Nat → Nat) (l : Array Slot) (i : Nat) (v : Value) : storeLocals (l.map (renS f)) i (ren f v) = (storeLocals l i v).map fun a => a.map (renS f) := by
  simp only [storeLocals, Array.getElem?_map]
  cases l[i]? with
  | none => rfl
  | some s =>
    simp only [Option.map_some, Option.bind_eq_bind, Option.bind_some]
    cases s with
    | unset => exact storeSelf_ren f l i v
    | second =>
      have h1 : setAt (l.map (renS f)) (i - 1) .unset = _ := setAt_ren f l (i - 1) .unset
      simp only [renS, h1]
      cases setAt l (i - 1) .unset with
      | none => rfl
      | some l2 => exact storeSelf_ren f l2 i v
    | val w =>
      simp only [renS, ren_cat]
      split
      · have h1 : setAt (l.map (renS f)) (i + 1) .unset = _ := setAt_ren f l (i + 1) .unset
        rw [h1]
        cases setAt l (i + 1) .unset with
        | none => rfl
        | some l2 => exact storeSelf_ren f l2 i v
      · exact storeSelf_ren f l i v
theorem stl_ren {f : Nat → Nat} {ls l' : List Slot} {i : Nat} {v : Value} (h : stl ls i v = some l') : storeLocals (ls.map (renS f)).toArray i (ren f v) = some (l'.map (renS f)).toArray := by
  unfold stl at h
  obtain ⟨a, ha, rfl⟩ := Option.map_eq_some_iff.mp h
  have := storeLocals_ren f ls.toArray i v
  rw [ha] at this
  rw [← List.map_toArray, this]
  simp [← Array.toList_inj]
theorem setAt_size {l l' : Array Slot} {i : Nat} {x : Slot} (h : setAt l i x = some l') : l'.size = l.size := by
  unfold setAt at h
  split at h
  · cases h; simp
  · cases h
theorem storeSelf_size {l l' : Array Slot} {i : Nat} {v : Value} (h : storeSelf l i v = some l') : l'.size = l.size := by
  simp only [storeSelf, Option.bind_eq_bind, Option.bind_eq_some_iff] at h
  obtain ⟨l1, h1, h⟩ := h
  have e1 := setAt_size h1
  split at h
  · obtain ⟨s, -, h⟩ := Option.bind_eq_some_iff.mp h
    split at h
    · split at h
      · obtain ⟨l2, h2, h⟩ := Option.bind_eq_some_iff.mp h
        rw [setAt_size h, setAt_size h2, e1]
      · rw [setAt_size h, e1]
    · rw [setAt_size h, e1]
  · cases h; exact e1
theorem storeLocals_size {l l' : Array Slot} {i : Nat} {v : Value} (h : storeLocals l i v = some l') : l'.size = l.size := by
  simp only [storeLocals, Option.bind_eq_bind, Option.bind_eq_some_iff] at h
  obtain ⟨s, -, h⟩ := h
  split at h
  · obtain ⟨l2, h2, h⟩ := Option.bind_eq_some_iff.mp h
    rw [storeSelf_size h, setAt_size h2]
  · split at h
    · obtain ⟨l2, h2, h⟩ := Option.bind_eq_some_iff.mp h
      rw [storeSelf_size h, setAt_size h2]
    · exact storeSelf_size h
  · exact storeSelf_size h
theorem stl_size {ls l' : List Slot} {i : Nat} {v : Value} (h : stl ls i v = some l') : l'.length = ls.length := by
  unfold stl at h
  obtain ⟨a, ha, rfl⟩ := Option.map_eq_some_iff.mp h
  have := storeLocals_size ha
  simpa using this
theorem ldV_some {p : Value → Bool} {nx i : Nat} {ls : List Slot} {st : List Value} {q : Nat × List Slot × List Value} (h : ldV p nx i ls st = some q) : ∃ v, ls[i]? = some (.val v) ∧ p v = true ∧ q = (nx, ls, v :: st) := by
  unfold ldV at h
  split at h
  · rename_i v hv
    split at h
    · cases h; exact ⟨v, hv, by assumption, rfl⟩
    · cases h
  · cases h
theorem stV_some {p : Value → Bool} {nx i : Nat} {ls : List Slot} {st : List Value} {q : Nat × List Slot × List Value} (h : stV p nx i ls st = some q) : ∃ v r l', st = v :: r ∧ p v = true ∧ stl ls i v = some l' ∧ q = (nx, l', r) := by
  unfold stV at h
  split at h
  · split at h
    · obtain ⟨l', h1, h2⟩ := Option.map_eq_some_iff.mp h
      exact ⟨_, _, l', rfl, by assumption, h1, h2.symm⟩
    · cases h
  · cases h
theorem b2_some {f : Int32 → Int32 → Int32} {nx : Nat} {ls : List Slot} {st : List Value} {q : Nat × List Slot × List Value} (h : b2 f nx ls st = some q) : ∃ x y r, st = .int y :: .int x :: r ∧ q = (nx, ls, .int (f x y) :: r) := by
  unfold b2 at h
  split at h
  · cases h; exact ⟨_, _, _, rfl, rfl⟩
  · cases h
theorem d2_some {f : Int32 → Int32 → Int32} {nx : Nat} {ls : List Slot} {st : List Value} {q : Nat × List Slot × List Value} (h : d2 f nx ls st = some q) : ∃ x y r, st = .int y :: .int x :: r ∧ y ≠ 0 ∧ q = (nx, ls, .int (f x y) :: r) := by
  unfold d2 at h
  split at h
  · split at h
    · cases h
    · cases h; exact ⟨_, _, _, rfl, by assumption, rfl⟩
  · cases h
theorem u1_some {f : Int32 → Int32} {nx : Nat} {ls : List Slot} {st : List Value} {q : Nat × List Slot × List Value} (h : u1 f nx ls st = some q) : ∃ x r, st = .int x :: r ∧ q = (nx, ls, .int (f x) :: r) := by
  unfold u1 at h
  split at h
  · cases h; exact ⟨_, _, rfl, rfl⟩
  · cases h
theorem l2_some {f : Int64 → Int64 → Int64} {nx : Nat} {ls : List Slot} {st : List Value} {q : Nat × List Slot × List Value} (h : l2 f nx ls st = some q) : ∃ x y r, st = .long y :: .long x :: r ∧ q = (nx, ls, .long (f x y) :: r) := by
  unfold l2 at h
  split at h
  · cases h; exact ⟨_, _, _, rfl, rfl⟩
  · cases h
theorem lsh_some {f : Int64 → Int32 → Int64} {nx : Nat} {ls : List Slot} {st : List Value} {q : Nat × List Slot × List Value} (h : lsh f nx ls st = some q) : ∃ x y r, st = .int y :: .long x :: r ∧ q = (nx, ls, .long (f x y) :: r) := by
  unfold lsh at h
  split at h
  · cases h; exact ⟨_, _, _, rfl, rfl⟩
  · cases h
theorem jmp_some {pc q : Nat} {o : Int} (h : jmp pc o = some q) : 0 ≤ (pc : Int) + o ∧ ((pc : Int) + o).toNat = q := by
  unfold jmp at h
  split at h
  · cases h; exact ⟨by assumption, rfl⟩
  · cases h
theorem br_some {c : Bool} {pc : Nat} {o : Int} {ls : List Slot} {r : List Value} {q : Nat × List Slot × List Value} (h : br c pc o ls r = some q) : (c = true ∧ ∃ t, 0 ≤ (pc : Int) + o ∧ ((pc : Int) + o).toNat = t ∧ q = (t, ls, r)) ∨ (c = false ∧ q = (pc + 3, ls, r)) := by
  unfold br at h
  split at h
  · obtain ⟨t, h1, h2⟩ := Option.map_eq_some_iff.mp h
    obtain ⟨h3, h4⟩ := jmp_some h1
    exact Or.inl ⟨by assumption, t, h3, h4, h2.symm⟩
  · rename_i hc; cases h; exact Or.inr ⟨by simpa using hc, rfl⟩
section X
variable {tb : Tables} [Ours tb] {e : Env} {below : List Frame} {T target : State} {m : MethodId} {c : Code}
set_option maxHeartbeats 4000000 in
theorem xstep_sound (h : At T m c below) (hx : tb.exec = Jvm.exec) (f : Nat → Nat) {ins : Instr} {len pc : Nat} {ls : List Slot} {st : List Value} {q : Nat × List Slot × List Value}
    (hd : decode c.code pc = .ok (ins, len)) (hs : xstep ins len pc ls st = some q) (hr : Steps tb e below (T.setTop (fr f m q.1 q.2.1 q.2.2)) target) : Steps tb e below (T.setTop (fr f m pc ls st)) target := by
  unfold xstep at hs
  split at hs
  · obtain ⟨rfl, hs⟩ := chk_some hs; obtain ⟨v, h1, h2, rfl⟩ := ldV_some hs
    exact XS.aloadN h hx rfl hd (loc_get h1) (by rw [ren_isRef]; exact h2) hr
  · obtain ⟨rfl, hs⟩ := chk_some hs; obtain ⟨v, h1, h2, rfl⟩ := ldV_some hs
    exact XS.aload h hx rfl hd (loc_get h1) (by rw [ren_isRef]; exact h2) hr
  · obtain ⟨rfl, hs⟩ := chk_some hs; obtain ⟨v, h1, h2, rfl⟩ := ldV_some hs; obtain ⟨x, rfl⟩ := isI_int h2
    exact XS.iloadN h hx rfl hd (loc_get (f := f) h1) hr
  · obtain ⟨rfl, hs⟩ := chk_some hs; obtain ⟨v, h1, h2, rfl⟩ := ldV_some hs; obtain ⟨x, rfl⟩ := isI_int h2
    exact XS.iload h hx rfl hd (loc_get (f := f) h1) hr
  · obtain ⟨rfl, hs⟩ := chk_some hs; obtain ⟨v, h1, h2, rfl⟩ := ldV_some hs; obtain ⟨x, rfl⟩ := isL_long h2
    exact XT.lloadN h hx rfl hd (loc_get (f := f) h1) hr
  · obtain ⟨rfl, hs⟩ := chk_some hs; obtain ⟨v, h1, h2, rfl⟩ := ldV_some hs; obtain ⟨x, rfl⟩ := isL_long h2
    exact XT.lload h hx rfl hd (loc_get (f := f) h1) hr
  · obtain ⟨rfl, hs⟩ := chk_some hs; obtain ⟨v, r, l', rfl, h2, h3, rfl⟩ := stV_some hs
    exact XS.astoreN h hx rfl hd rfl (by rw [ren_isRef]; exact h2) (stl_ren h3) hr
  · obtain ⟨rfl, hs⟩ := chk_some hs; obtain ⟨v, r, l', rfl, h2, h3, rfl⟩ := stV_some hs
    exact XS.astore h hx rfl hd rfl (by rw [ren_isRef]; exact h2) (stl_ren h3) hr
  · obtain ⟨rfl, hs⟩ := chk_some hs; obtain ⟨v, r, l', rfl, h2, h3, rfl⟩ := stV_some hs; obtain ⟨x, rfl⟩ := isI_int h2
    exact XS.istoreN h hx rfl hd rfl (stl_ren (f := f) h3) hr
  · obtain ⟨rfl, hs⟩ := chk_some hs; obtain ⟨v, r, l', rfl, h2, h3, rfl⟩ := stV_some hs; obtain ⟨x, rfl⟩ := isI_int h2
    exact XS.istore h hx rfl hd rfl (stl_ren (f := f) h3) hr
  · obtain ⟨rfl, hs⟩ := chk_some hs; obtain ⟨v, r, l', rfl, h2, h3, rfl⟩ := stV_some hs; obtain ⟨x, rfl⟩ := isL_long h2
    exact XT.lstoreN h hx rfl hd rfl (stl_ren (f := f) h3) hr
  · obtain ⟨rfl, hs⟩ := chk_some hs; obtain ⟨v, r, l', rfl, h2, h3, rfl⟩ := stV_some hs; obtain ⟨x, rfl⟩ := isL_long h2
    exact XT.lstore h hx rfl hd rfl (stl_ren (f := f) h3) hr
  · obtain ⟨rfl, hs⟩ := chk_some hs; cases hs
    exact XS.iconst h hx rfl hd hr
  · obtain ⟨rfl, hs⟩ := chk_some hs; cases hs
    exact XS.bipush h hx rfl hd hr
  · obtain ⟨rfl, hs⟩ := chk_some hs; cases hs
    exact XS.sipush h hx rfl hd hr
  · obtain ⟨rfl, hs⟩ := chk_some hs; cases hs
    exact XT.lconst h hx rfl hd hr
  · obtain ⟨rfl, hs⟩ := chk_some hs; obtain ⟨x, y, r, rfl, rfl⟩ := b2_some hs
    exact XS.iadd h hx rfl hd rfl hr
  · obtain ⟨rfl, hs⟩ := chk_some hs; obtain ⟨x, y, r, rfl, rfl⟩ := b2_some hs
    exact XS.isub h hx rfl hd rfl hr
  · obtain ⟨rfl, hs⟩ := chk_some hs; obtain ⟨x, y, r, rfl, rfl⟩ := b2_some hs
    exact XS.imul h hx rfl hd rfl hr
  · obtain ⟨rfl, hs⟩ := chk_some hs; obtain ⟨x, y, r, rfl, rfl⟩ := b2_some hs
    exact XS.iand h hx rfl hd rfl hr
  · obtain ⟨rfl, hs⟩ := chk_some hs; obtain ⟨x, y, r, rfl, rfl⟩ := b2_some hs
    exact XT.ior h hx rfl hd rfl hr
  · obtain ⟨rfl, hs⟩ := chk_some hs; obtain ⟨x, y, r, rfl, rfl⟩ := b2_some hs
    exact XT.ixor h hx rfl hd rfl hr
  · obtain ⟨rfl, hs⟩ := chk_some hs; obtain ⟨x, y, r, rfl, rfl⟩ := b2_some hs
    exact XT.ishl h hx rfl hd rfl hr
  · obtain ⟨rfl, hs⟩ := chk_some hs; obtain ⟨x, y, r, rfl, rfl⟩ := b2_some hs
    exact XT.ishr h hx rfl hd rfl hr
  · obtain ⟨rfl, hs⟩ := chk_some hs; obtain ⟨x, y, r, rfl, rfl⟩ := b2_some hs
    exact XT.iushr h hx rfl hd rfl hr
  · obtain ⟨rfl, hs⟩ := chk_some hs; obtain ⟨x, y, r, rfl, h2, rfl⟩ := d2_some hs
    exact XS.idiv h hx rfl hd rfl h2 hr
  · obtain ⟨rfl, hs⟩ := chk_some hs; obtain ⟨x, y, r, rfl, h2, rfl⟩ := d2_some hs
    refine XS.irem h hx rfl hd rfl h2 ?_
    have q : x - x / y * y = x % y := irem_eq_mod x y
    rw [q]; exact hr
  · obtain ⟨rfl, hs⟩ := chk_some hs; obtain ⟨x, r, rfl, rfl⟩ := u1_some hs
    exact XS.ineg h hx rfl hd rfl hr
  · obtain ⟨rfl, hs⟩ := chk_some hs; obtain ⟨x, r, rfl, rfl⟩ := u1_some hs
    exact XT.i2b h hx rfl hd rfl hr
  · obtain ⟨rfl, hs⟩ := chk_some hs; obtain ⟨x, r, rfl, rfl⟩ := u1_some hs
    exact XT.i2c h hx rfl hd rfl hr
  · obtain ⟨rfl, hs⟩ := chk_some hs; obtain ⟨x, y, r, rfl, rfl⟩ := l2_some hs
    exact XT.ladd h hx rfl hd rfl hr
  · obtain ⟨rfl, hs⟩ := chk_some hs; obtain ⟨x, y, r, rfl, rfl⟩ := l2_some hs
    exact XT.lsub h hx rfl hd rfl hr
  · obtain ⟨rfl, hs⟩ := chk_some hs; obtain ⟨x, y, r, rfl, rfl⟩ := l2_some hs
    exact XT.lmul h hx rfl hd rfl hr
  · obtain ⟨rfl, hs⟩ := chk_some hs; obtain ⟨x, y, r, rfl, rfl⟩ := l2_some hs
    exact XT.land h hx rfl hd rfl hr
  · obtain ⟨rfl, hs⟩ := chk_some hs; obtain ⟨x, y, r, rfl, rfl⟩ := l2_some hs
    exact XT.lor h hx rfl hd rfl hr
  · obtain ⟨rfl, hs⟩ := chk_some hs; obtain ⟨x, y, r, rfl, rfl⟩ := l2_some hs
    exact XT.lxor h hx rfl hd rfl hr
  · obtain ⟨rfl, hs⟩ := chk_some hs; obtain ⟨x, y, r, rfl, rfl⟩ := lsh_some hs
    exact XT.lshl h hx rfl hd rfl hr
  · obtain ⟨rfl, hs⟩ := chk_some hs; obtain ⟨x, y, r, rfl, rfl⟩ := lsh_some hs
    exact XT.lshr h hx rfl hd rfl hr
  · obtain ⟨rfl, hs⟩ := chk_some hs; obtain ⟨x, y, r, rfl, rfl⟩ := lsh_some hs
    exact XT.lushr h hx rfl hd rfl hr
  · obtain ⟨rfl, hs⟩ := chk_some hs
    split at hs
    · cases hs; exact XT.lneg h hx rfl hd rfl hr
    · cases hs
  · obtain ⟨rfl, hs⟩ := chk_some hs
    split at hs
    · cases hs; exact XT.i2l h hx rfl hd rfl hr
    · cases hs
  · obtain ⟨rfl, hs⟩ := chk_some hs
    split at hs
    · cases hs; exact XT.l2i h hx rfl hd rfl hr
    · cases hs
  · obtain ⟨rfl, hs⟩ := chk_some hs
    split at hs
    · cases hs; exact XT.lcmp h hx rfl hd rfl hr
    · cases hs
  · obtain ⟨rfl, hs⟩ := chk_some hs
    split at hs
    · rename_i x h1
      obtain ⟨l', h2, rfl⟩ := Option.map_eq_some_iff.mp hs
      exact XS.iinc h hx rfl hd (loc_get (f := f) h1) (stl_ren (f := f) h2) hr
    · cases hs
  · obtain ⟨rfl, hs⟩ := chk_some hs
    split at hs
    · split at hs
      · rename_i hc; cases hs; exact XS.dup h hx rfl hd rfl (by rw [ren_cat]; exact hc) hr
      · cases hs
    · cases hs
  · obtain ⟨rfl, hs⟩ := chk_some hs
    split at hs
    · cases hs; exact XT.dup2L h hx rfl hd rfl hr
    · split at hs
      · rename_i hc; cases hs; exact XT.dup2 h hx rfl hd rfl (by rw [ren_cat]; exact hc.1) (by rw [ren_cat]; exact hc.2) hr
      · cases hs
    · cases hs
  · obtain ⟨rfl, hs⟩ := chk_some hs
    split at hs
    · split at hs
      · rename_i hc; cases hs; exact XT.pop h hx rfl hd rfl (by rw [ren_cat]; exact hc) hr
      · cases hs
    · cases hs
  · obtain ⟨rfl, hs⟩ := chk_some hs
    obtain ⟨t, h1, rfl⟩ := Option.map_eq_some_iff.mp hs
    obtain ⟨h2, h3⟩ := jmp_some h1
    exact XS.goto h hx rfl rfl hd h2 h3 hr
  · obtain ⟨rfl, hs⟩ := chk_some hs
    split at hs
    · rcases br_some hs with ⟨hc, t, h1, h2, rfl⟩ | ⟨hc, rfl⟩
      · exact XS.ifYes h hx rfl rfl hd rfl hc h1 h2 hr
      · exact XS.ifNo h hx rfl hd rfl hc hr
    · cases hs
  · obtain ⟨rfl, hs⟩ := chk_some hs
    split at hs
    · rcases br_some hs with ⟨hc, t, h1, h2, rfl⟩ | ⟨hc, rfl⟩
      · exact XS.icmpYes h hx rfl rfl hd rfl hc h1 h2 hr
      · exact XS.icmpNo h hx rfl hd rfl hc hr
    · cases hs
  · unfold sw at hs
    split at hs
    · split at hs
      · rename_i hc
        obtain ⟨t, h1, rfl⟩ := Option.map_eq_some_iff.mp hs
        obtain ⟨h2, h3⟩ := jmp_some h1
        exact XS.tswOut h hx rfl rfl hd rfl hc h2 h3 hr
      · rename_i hc
        split at hs
        · rename_i o ho
          obtain ⟨t, h1, rfl⟩ := Option.map_eq_some_iff.mp hs
          obtain ⟨h2, h3⟩ := jmp_some h1
          exact XS.tswIn h hx rfl rfl hd rfl hc ho h2 h3 hr
        · cases hs
    · cases hs
  · cases hs
end X
theorem xstep_size {ins : Instr} {len pc : Nat} {ls : List Slot} {st : List Value} {q : Nat × List Slot × List Value} (hs : xstep ins len pc ls st = some q) : q.2.1.length = ls.length := by
  unfold xstep at hs
  split at hs
  all_goals first
    | (obtain ⟨rfl, hs⟩ := chk_some hs; obtain ⟨v, h1, h2, rfl⟩ := ldV_some hs; rfl)
    | (obtain ⟨rfl, hs⟩ := chk_some hs; obtain ⟨v, r, l', rfl, h2, h3, rfl⟩ := stV_some hs; exact stl_size h3)
    | (obtain ⟨rfl, hs⟩ := chk_some hs; cases hs; rfl)
    | (obtain ⟨rfl, hs⟩ := chk_some hs; obtain ⟨x, y, r, rfl, rfl⟩ := b2_some hs; rfl)
    | (obtain ⟨rfl, hs⟩ := chk_some hs; obtain ⟨x, y, r, rfl, h2, rfl⟩ := d2_some hs; rfl)
    | (obtain ⟨rfl, hs⟩ := chk_some hs; obtain ⟨x, r, rfl, rfl⟩ := u1_some hs; rfl)
    | (obtain ⟨rfl, hs⟩ := chk_some hs; obtain ⟨x, y, r, rfl, rfl⟩ := l2_some hs; rfl)
    | (obtain ⟨rfl, hs⟩ := chk_some hs; obtain ⟨x, y, r, rfl, rfl⟩ := lsh_some hs; rfl)
    | (obtain ⟨rfl, hs⟩ := chk_some hs; split at hs <;> first | (cases hs; rfl) | (cases hs; done))
    | (obtain ⟨rfl, hs⟩ := chk_some hs; split at hs <;> first | (obtain ⟨l', h2, rfl⟩ := Option.map_eq_some_iff.mp hs; exact stl_size h2) | (cases hs; done))
    | (obtain ⟨rfl, hs⟩ := chk_some hs; split at hs <;> first | (split at hs <;> first | (cases hs; rfl) | (cases hs; done)) | (cases hs; rfl) | (cases hs; done))
    | (obtain ⟨rfl, hs⟩ := chk_some hs; obtain ⟨t, h1, rfl⟩ := Option.map_eq_some_iff.mp hs; rfl)
    | (obtain ⟨rfl, hs⟩ := chk_some hs; split at hs <;> first | (rcases br_some hs with ⟨hc, t, h1, h2, rfl⟩ | ⟨hc, rfl⟩ <;> rfl) | (cases hs; done))
    | (unfold sw at hs; split at hs <;> first | (cases hs; done) | (split at hs <;> first | (obtain ⟨t, h1, rfl⟩ := Option.map_eq_some_iff.mp hs; rfl) | (split at hs <;> first | (obtain ⟨t, h1, rfl⟩ := Option.map_eq_some_iff.mp hs; rfl) | (cases hs; done))))
    | (cases hs; done)
end Jvm.Own
namespace Jvm.Own
open Sem ClassFile Op Lib Jvm.Stand Jvm.Free Jvm.LawKit Jvm.RoadKit
/-! OWN 4: the heap's steps -/
def adr (k sa n0 i : Nat) : Nat := if i < k then sa else n0 + (i - k)
def SimO (Z : State) (ws : Ws) (f : Nat → Nat) (h : Heap) (a : Addr) : FieldType × List Value → Prop
  | (.object C, vs) => Exa Z h a C ∧ ∀ n t j, fidx ws C n t = some j → ∃ v, vs[j]? = some v ∧ Fld Z h a C n t (ren f v)
  | (.array ty, vs) => ∃ c : Cell, Arr Z h a c ty ∧ c.slots = (vs.map (ren f)).toArray
  | _ => False
def Sim (Z : State) (ws : Ws) (k sa n0 : Nat) (H : AHeap) (h : Heap) : Prop :=
  h.size = n0 + (H.length - k) ∧ k ≤ H.length ∧ k ≤ 1 ∧ (1 ≤ k → sa < n0) ∧ ∀ i o, H[i]? = some o → SimO Z ws (adr k sa n0) h (adr k sa n0 i) o
def cost (ws : Ws) : FieldType × List Value → Nat
  | (.object C, _) => (rInst ws C).getD 0
  | (_, vs) => vs.length
def tot (ws : Ws) (H : AHeap) : Nat := (H.map (cost ws)).sum
theorem adr_inj {k sa n0 i j : Nat} (hk : k ≤ 1) (hs : 1 ≤ k → sa < n0) (e : adr k sa n0 i = adr k sa n0 j) : i = j := by
  unfold adr at e; split at e <;> split at e <;> omega
theorem adr_ge {k sa n0 a : Nat} (h : k ≤ a) : n0 ≤ adr k sa n0 a := by
  unfold adr; rw [if_neg (by omega)]; omega
theorem tot_app (ws : Ws) (H : AHeap) (o : FieldType × List Value) : tot ws (H ++ [o]) = tot ws H + cost ws o := by simp [tot]
theorem tot_set {ws : Ws} : ∀ {H : AHeap} {a : Nat} {o o' : FieldType × List Value}, H[a]? = some o → cost ws o' = cost ws o → tot ws (H.set a o') = tot ws H
  | [], _, _, _, h, _ => by cases h
  | x :: r, 0, o, o', h, e => by
    simp only [List.getElem?_cons_zero, Option.some.injEq] at h; subst h
    simp [tot, e]
  | x :: r, a + 1, o, o', h, e => by
    have := tot_set (ws := ws) (H := r) (a := a) (o := o) (o' := o') (by simpa using h) e
    simp only [tot, List.set_cons_succ, List.map_cons, List.sum_cons] at this ⊢
    rw [this]
theorem ren_dflt (f : Nat → Nat) (ty : FieldType) : ren f (defaultValue ty) = defaultValue ty := by cases ty <;> rfl
section Facts
variable {Z : State} {ws : Ws} {f : Nat → Nat} {h h' : Heap} {a b : Addr} {o : FieldType × List Value} {sl : Nat} {v : Value}
theorem SimO.ext (E : Ext h h') (S : SimO Z ws f h a o) : SimO Z ws f h' a o := by
  unfold SimO at S ⊢
  split at S
  · exact ⟨S.1.ext E, fun n t j q => by obtain ⟨v, h1, h2⟩ := S.2 n t j q; exact ⟨v, h1, h2.ext E⟩⟩
  · obtain ⟨c, h1, h2⟩ := S; exact ⟨c, h1.ext E, h2⟩
  · exact S.elim
theorem SimO.other (W : Wr h h' b sl v) (ne : a ≠ b) (S : SimO Z ws f h a o) : SimO Z ws f h' a o := by
  unfold SimO at S ⊢
  split at S
  · exact ⟨S.1.wr W, fun n t j q => by obtain ⟨v, h1, h2⟩ := S.2 n t j q; exact ⟨v, h1, h2.other W (Or.inl ne)⟩⟩
  · obtain ⟨c, h1, h2⟩ := S; exact ⟨c, h1.other W ne, h2⟩
  · exact S.elim
theorem Sim.push {k sa n0 : Nat} {H : AHeap} (S : Sim Z ws k sa n0 H h) (E : Ext h h') (hz : h'.size = h.size + 1) (O : SimO Z ws (adr k sa n0) h' h.size o) : Sim Z ws k sa n0 (H ++ [o]) h' := by
  obtain ⟨h1, h2, h3, h4, h5⟩ := S
  refine ⟨by rw [hz, h1, List.length_append, List.length_singleton]; omega, by rw [List.length_append]; omega, h3, h4, fun i o' q => ?_⟩
  rcases Nat.lt_trichotomy i H.length with g | g | g
  · rw [List.getElem?_append_left g] at q; exact (h5 i o' q).ext E
  · subst g
    rw [List.getElem?_append_right (Nat.le_refl _), Nat.sub_self] at q
    cases q
    have e : adr k sa n0 H.length = h.size := by unfold adr; rw [if_neg (by omega), h1]
    rw [e]; exact O
  · rw [List.getElem?_eq_none (by simp; omega)] at q; cases q
theorem Sim.next {k sa n0 : Nat} {H : AHeap} (S : Sim Z ws k sa n0 H h) : h.size = adr k sa n0 H.length := by
  obtain ⟨h1, h2, -⟩ := S
  unfold adr; rw [if_neg (by omega), h1]
theorem Wr.upd {k sa n0 i : Nat} {H : AHeap} {o' : FieldType × List Value} (S : Sim Z ws k sa n0 H h) (W : Wr h h' (adr k sa n0 i) sl v) (O : SimO Z ws (adr k sa n0) h' (adr k sa n0 i) o') : Sim Z ws k sa n0 (H.set i o') h' := by
  obtain ⟨h1, h2, h3, h4, h5⟩ := S
  refine ⟨by rw [W.size, h1, List.length_set], by rw [List.length_set]; exact h2, h3, h4, fun j q hq => ?_⟩
  by_cases e : i = j
  · subst e
    rw [List.getElem?_set_self' ] at hq
    cases hi : H[i]? with
    | none => rw [hi] at hq; cases hq
    | some x => rw [hi] at hq; cases hq; exact O
  · rw [List.getElem?_set_ne e] at hq
    exact (h5 j q hq).other W fun g => e (adr_inj h3 h4 g).symm
end Facts
theorem putv_ok {ty : FieldType} {v v' : Value} (f : Nat → Nat) (h : putv ty v = some v') : narrow ty (ren f v) = ren f v' ∧ fits ty (ren f v') = true := by
  unfold putv at h
  split at h
  · cases h; exact ⟨rfl, rfl⟩
  · cases h; exact ⟨rfl, fits_nar_bool _⟩
  · cases h; exact ⟨rfl, fits_nar_byte _⟩
  · cases h; exact ⟨rfl, fits_nar_char _⟩
  · cases h; exact ⟨rfl, fits_nar_short _⟩
  · cases h; exact ⟨rfl, rfl⟩
  · cases h; exact ⟨rfl, rfl⟩
  · cases h
theorem size_set (c : Cell) (j : Nat) (v : Value) (f : Nat → Nat) {vs : List Value} {v' : Value} (e : c.slots = (vs.map (ren f)).toArray) (q : v = ren f v') : (c.setSlot j v).slots = ((vs.set j v').map (ren f)).toArray := by
  subst q
  show c.slots.setIfInBounds j (ren f v') = _
  rw [e, List.setIfInBounds_toArray, List.map_set]
section H
variable {p : Program} {l : Launch} {e : Env} {R : Room} {s : State} {m : MethodId} {args : Array Value} {below : List Frame} {meth : Method} {c : Code} {T : State} {locs : List Loc} {cells slots : Nat}
  {Z : State} {a0 : Array Value} {ws : Ws} {k sa n0 : Nat} {y : MethodName} {pc : Nat} {ls : List Slot} {st : List Value} {H : AHeap}
/-- the point behind one step -/
def Beh (p : Program) (l : Launch) (e : Env) (R : Room) (s : State) (m : MethodId) (args : Array Value) (below : List Frame) (meth : Method) (c : Code) (T : State) (Z : State) (ws : Ws) (k sa n0 cells slots : Nat) (H : AHeap) (g : JFrame) (pc' : Nat) (ls' : List Slot) (st' : List Value) (H' : AHeap) : Prop :=
  ∃ T' locs', Stand p l e R s m args below meth c T' locs' (cells + (H'.length - H.length)) (slots + (tot ws H' - tot ws H)) ∧ Sim Z ws k sa n0 H' T'.heap ∧ Fr n0 locs' ∧
    ∀ target, Steps p.tables e below (T'.setTop (fr (adr k sa n0) m pc' ls' st')) target → Steps p.tables e below (T.setTop g) target
theorem Beh.stay {g : JFrame} {pc' : Nat} {st' : List Value} {T' : State} (X : Stand p l e R s m args below meth c T' locs cells slots) (S : Sim Z ws k sa n0 H T'.heap) (N : Fr n0 locs)
    (h : ∀ target, Steps p.tables e below (T'.setTop (fr (adr k sa n0) m pc' ls st')) target → Steps p.tables e below (T.setTop g) target) : Beh p l e R s m args below meth c T Z ws k sa n0 cells slots H g pc' ls st' H :=
  ⟨T', locs, by rw [Nat.sub_self, Nat.sub_self]; exact X, S, N, h⟩
theorem hGet_sound (hw : ∀ d ∈ ws, d.before a0 Z = true) (X : Stand p l e R s m args below meth c T locs cells slots) (hx : p.tables.exec = Jvm.exec) (hZ : Z.Warmed39 s.vm) (hown : s.vm.findClass y.cls = some m.cls)
    {i : Nat} (hd : decode c.code pc = .ok (.getfield i, 3)) {q : Nat × List Value × AHeap} (hs : hGet ws y.cls i pc H st = some q) (S : Sim Z ws k sa n0 H T.heap) (N : Fr n0 locs) :
    Beh p l e R s m args below meth c T Z ws k sa n0 cells slots H (fr (adr k sa n0) m pc ls st) q.1 ls q.2.1 q.2.2 := by
  unfold hGet at hs
  split at hs
  · rename_i a r
    split at hs
    · rename_i C j C' vs q1 q2
      split at hs
      · rename_i hC; subst hC
        obtain ⟨v, hv, rfl⟩ := Option.map_eq_some_iff.mp hs
        obtain ⟨n, t, r1, r2⟩ := gfR_some q1
        obtain ⟨v', hv', F⟩ := (S.2.2.2.2 a _ q2).2 n t j r2
        cases hv.symm.trans hv'
        obtain ⟨T', X', e', st'⟩ := getF X hx hZ hown (host := "") (Or.inl (hw _ (rFld_mem r1))) Via.refl rfl F (g := fr (adr k sa n0) m pc ls (.ref a :: r)) rfl rfl hd
        exact Beh.stay X' (by rw [e']; exact S) N st'
      · cases hs
    · cases hs
  · cases hs
theorem hPut_sound (hw : ∀ d ∈ ws, d.before a0 Z = true) (X : Stand p l e R s m args below meth c T locs cells slots) (hx : p.tables.exec = Jvm.exec) (hZ : Z.Warmed39 s.vm) (hown : s.vm.findClass y.cls = some m.cls) (hnm : meth.name = y.name)
    {i : Nat} (hd : decode c.code pc = .ok (.putfield i, 3)) {q : Nat × List Value × AHeap} (hs : hPut ws k y.cls y.name i pc H st = some q) (S : Sim Z ws k sa n0 H T.heap) (N : Fr n0 locs) :
    Beh p l e R s m args below meth c T Z ws k sa n0 cells slots H (fr (adr k sa n0) m pc ls st) q.1 ls q.2.1 q.2.2 := by
  unfold hPut at hs
  split at hs
  · rename_i v a r
    split at hs
    · rename_i C j ty C' vs q1 q2
      split at hs
      · rename_i hC; obtain ⟨rfl, hk, hj⟩ := hC
        obtain ⟨v', hv, rfl⟩ := Option.map_eq_some_iff.mp hs
        obtain ⟨n, t, r1, r2, r3, r4, ⟨ki, r5⟩, r6⟩ := pfR_some q1
        have SO := S.2.2.2.2 a _ q2
        obtain ⟨w, hw', F⟩ := SO.2 n t j r2
        obtain ⟨g1, g2⟩ := putv_ok (adr k sa n0) hv
        obtain ⟨T', h', X', e', W, st'⟩ := putFN X hx hZ hown (hw _ (rFld_mem r1)) Via.refl rfl F SO.1 (r4.imp (fun q => hw _ q) fun q => ⟨hw _ q.1, q.2.1, hnm.trans q.2.2⟩) (hw _ r5) r3 g1 g2 (g := fr (adr k sa n0) m pc ls (v :: .ref a :: r)) rfl rfl hd
        have LL : ∀ {n' t' : String}, (n', t') ∈ olay ws C → Laid Z a0 C C n' t' := fun q => (lay_mem q).1.imp (fun q => hw _ q) (fun q => hw _ q)
        have O' : SimO Z ws (adr k sa n0) h' (adr k sa n0 a) (.object C, vs.set j v') := by
          refine ⟨SO.1.wr W, fun n' t' j' q' => ?_⟩
          obtain ⟨u, hu, F'⟩ := SO.2 n' t' j' q'
          by_cases ej : j = j'
          · subst ej
            obtain ⟨rfl, rfl⟩ := fidx_inj r2 q'
            exact ⟨v', by rw [List.getElem?_set_self hj], F.same W⟩
          · refine ⟨u, by rw [List.getElem?_set_ne ej]; exact hu, F'.other W (Or.inr ?_)⟩
            obtain ⟨-, ty', p'⟩ := lay_mem (fidx_mem q')
            refine slot_ne (LL (fidx_mem q')) (LL (fidx_mem r2)) (fun en => ?_) p' r3
            rcases r6 n' t' (fidx_mem q') with g | g
            · exact g en
            · subst en g; rw [r2] at q'; exact ej (Option.some.inj q')
        refine ⟨T', _, ?_, by rw [e']; exact Wr.upd S W O', Fr.snoc X' N (adr_ge hk), st'⟩
        show Stand p l e R s m args below meth c T' _ (cells + ((H.set a (.object C, vs.set j v')).length - H.length)) (slots + (tot ws (H.set a (.object C, vs.set j v')) - tot ws H))
        rw [List.length_set, tot_set (o := (.object C, vs)) (o' := (.object C, vs.set j v')) q2 rfl, Nat.sub_self, Nat.sub_self]
        exact X'
      · cases hs
    · cases hs
  · cases hs
theorem hNew_sound (hw : ∀ d ∈ ws, d.before a0 Z = true) (X : Stand p l e R s m args below meth c T locs cells slots) (hx : p.tables.exec = Jvm.exec) (hZ : Z.Warmed39 s.vm) (hown : s.vm.findClass y.cls = some m.cls)
    {i : Nat} (hd : decode c.code pc = .ok (.new i, 3)) {q : Nat × List Value × AHeap} (hs : hNew ws y.cls i pc H st = some q) (S : Sim Z ws k sa n0 H T.heap) (N : Fr n0 locs)
    (hc : cells + (q.2.2.length - H.length) ≤ R.cells) (hl : slots + (tot ws q.2.2 - tot ws H) ≤ R.slots) (hz0 : T.heap.size = s.heap.size + cells) :
    Beh p l e R s m args below meth c T Z ws k sa n0 cells slots H (fr (adr k sa n0) m pc ls st) q.1 ls q.2.1 q.2.2 := by
  unfold hNew at hs
  split at hs
  · rename_i C q1
    split at hs
    · rename_i g; cases hs
      obtain ⟨ki, hki⟩ := Option.isSome_iff_exists.mp g.1
      have ec : (H ++ [(FieldType.object C, (olay ws C).map dflt)]).length - H.length = 1 := by simp
      have es : tot ws (H ++ [(FieldType.object C, (olay ws C).map dflt)]) - tot ws H = ki := by
        rw [tot_app]; simp [cost, hki]
      dsimp only at hc hl ⊢
      rw [ec] at hc; rw [es] at hl
      have hz := S.next
      obtain ⟨T', h', X', e', E, A, D, -, st'⟩ := newO X hx hZ hown (hw _ (rCls_mem q1)) (hw _ (rInst_mem hki)) (hw _ (hasInit_mem g.2)) rfl (g := fr (adr k sa n0) m pc ls st) rfl hd hc hl
      have hz' : h'.size = T.heap.size + 1 := by
        have u1 := X'.heapSize
        have a1 : (T.heap.size : Nat) < h'.size := A.lt
        rw [e'] at u1
        omega
      refine ⟨T', locs, by rw [ec, es]; exact X', ?_, N, ?_⟩
      · rw [e']
        refine S.push E hz' ⟨A, fun n t j q => ?_⟩
        have hm := fidx_mem q
        obtain ⟨q2, ty, q3⟩ := lay_mem hm
        refine ⟨dflt (n, t), by rw [List.getElem?_map, idx_get q]; rfl, ?_⟩
        have F := D (O := C) (nm := n) (d := t) (q2.imp (fun q => hw _ q) (fun q => hw _ q)) q3
        have e3 : ren (adr k sa n0) (dflt (n, t)) = defaultValue ty := by simp only [dflt, q3, ren_dflt]
        rw [e3]; exact F
      · intro target ht
        rw [hz] at st'
        exact st' target ht
    · cases hs
  · cases hs
theorem hNewA_sound (hw : ∀ d ∈ ws, d.before a0 Z = true) (X : Stand p l e R s m args below meth c T locs cells slots) (hx : p.tables.exec = Jvm.exec) (hZ : Z.Warmed39 s.vm)
    {aty : ArrayType} (hd : decode c.code pc = .ok (.newarray aty, 2)) {q : Nat × List Value × AHeap} (hs : hNewA ws aty pc H st = some q) (S : Sim Z ws k sa n0 H T.heap) (N : Fr n0 locs)
    (hc : cells + (q.2.2.length - H.length) ≤ R.cells) (hl : slots + (tot ws q.2.2 - tot ws H) ≤ R.slots) (hz0 : T.heap.size = s.heap.size + cells) :
    Beh p l e R s m args below meth c T Z ws k sa n0 cells slots H (fr (adr k sa n0) m pc ls st) q.1 ls q.2.1 q.2.2 := by
  unfold hNewA at hs
  split at hs
  · rename_i n r
    split at hs
    · rename_i g; cases hs
      obtain ⟨g1, g2, g3⟩ := g
      have ec : (H ++ [(FieldType.array (newarray.typeOf aty), List.replicate n.toNatClampNeg (defaultValue (newarray.typeOf aty)))]).length - H.length = 1 := by simp
      have es : tot ws (H ++ [(FieldType.array (newarray.typeOf aty), List.replicate n.toNatClampNeg (defaultValue (newarray.typeOf aty)))]) - tot ws H = n.toNatClampNeg := by
        rw [tot_app]; simp [cost]
      dsimp only at hc hl ⊢
      rw [ec] at hc; rw [es] at hl
      have hz := S.next
      obtain ⟨T', h', cA, X', e', E, A, st'⟩ := newP X hx hZ (hw _ (hasArr_mem g1)) rfl (g := fr (adr k sa n0) m pc ls (.int n :: r)) rfl hd rfl g2 (cap := n.toNatClampNeg) (Nat.le_refl _) g3 hc hl
      have hz' : h'.size = T.heap.size + 1 := by
        have u1 := X'.heapSize
        have a1 : (T.heap.size : Nat) < h'.size := A.lt
        rw [e'] at u1
        omega
      refine ⟨T', locs, by rw [ec, es]; exact X', ?_, N, ?_⟩
      · rw [e']
        refine S.push E hz' ⟨_, A, ?_⟩
        simp [newA, ren_dflt]
      · intro target ht
        rw [hz] at st'
        exact st' target ht
    · cases hs
  · cases hs
theorem hLd_some {ok : FieldType → Bool} {q : Nat × List Value × AHeap} (hs : hLd ok pc H st = some q) : ∃ j a r ty vs v, st = .int j :: .ref a :: r ∧ H[a]? = some (.array ty, vs) ∧ ok ty = true ∧ ¬ j < 0 ∧ vs[j.toNatClampNeg]? = some v ∧ q = (pc + 1, v :: r, H) := by
  unfold hLd at hs
  split at hs
  · split at hs
    · split at hs
      · rename_i g
        obtain ⟨v, h1, h2⟩ := Option.map_eq_some_iff.mp hs
        exact ⟨_, _, _, _, _, v, rfl, by assumption, g.1, g.2, h1, h2.symm⟩
      · cases hs
    · cases hs
  · cases hs
theorem hSt_some {ok : FieldType → Bool} {q : Nat × List Value × AHeap} (hs : hSt ok k pc H st = some q) : ∃ v j a r ty vs v', st = v :: .int j :: .ref a :: r ∧ H[a]? = some (.array ty, vs) ∧ ok ty = true ∧ k ≤ a ∧ ¬ j < 0 ∧ j.toNatClampNeg < vs.length ∧ putv ty v = some v' ∧ q = (pc + 1, r, H.set a (.array ty, vs.set j.toNatClampNeg v')) := by
  unfold hSt at hs
  split at hs
  · split at hs
    · split at hs
      · rename_i g
        obtain ⟨v, h1, h2⟩ := Option.map_eq_some_iff.mp hs
        exact ⟨_, _, _, _, _, _, v, rfl, by assumption, g.1, g.2.1, g.2.2.1, g.2.2.2, h1, h2.symm⟩
      · cases hs
    · cases hs
  · cases hs
theorem hLen_some {q : Nat × List Value × AHeap} (hs : hLen pc H st = some q) : ∃ a r ty vs, st = .ref a :: r ∧ H[a]? = some (.array ty, vs) ∧ q = (pc + 1, .int vs.length.toInt32 :: r, H) := by
  unfold hLen at hs
  split at hs
  · split at hs
    · cases hs; exact ⟨_, _, _, _, rfl, by assumption, rfl⟩
    · cases hs
  · cases hs
/-- behind a store into an array -/
theorem st_beh {T' : State} {h' : Heap} {a j : Nat} {ty : FieldType} {vs : List Value} {v' : Value} {r : List Value} {g : JFrame} (X' : Stand p l e R s m args below meth c T' (locs ++ [⟨adr k sa n0 a, j⟩]) cells slots) (e' : T'.heap = h') (W : Wr T.heap h' (adr k sa n0 a) j (ren (adr k sa n0) v'))
    (S : Sim Z ws k sa n0 H T.heap) (N : Fr n0 locs) (q2 : H[a]? = some (.array ty, vs)) (hk : k ≤ a)
    (st' : ∀ target, Steps p.tables e below (T'.setTop (fr (adr k sa n0) m (pc + 1) ls r)) target → Steps p.tables e below (T.setTop g) target) :
    Beh p l e R s m args below meth c T Z ws k sa n0 cells slots H g (pc + 1) ls r (H.set a (.array ty, vs.set j v')) := by
  obtain ⟨cl, A, es⟩ := S.2.2.2.2 a _ q2
  refine ⟨T', _, ?_, by rw [e']; exact Wr.upd S W ⟨_, A.same W, size_set cl j _ _ es rfl⟩, Fr.snoc X' N (adr_ge hk), st'⟩
  rw [List.length_set, tot_set (o := (.array ty, vs)) (o' := (.array ty, vs.set j v')) q2 (by simp [cost]), Nat.sub_self, Nat.sub_self]
  exact X'
set_option maxHeartbeats 1000000 in
theorem hstep_sound (hw : ∀ d ∈ ws, d.before a0 Z = true) (X : Stand p l e R s m args below meth c T locs cells slots) (hx : p.tables.exec = Jvm.exec) (hZ : Z.Warmed39 s.vm) (hown : s.vm.findClass y.cls = some m.cls) (hnm : meth.name = y.name)
    {ins : Instr} {len : Nat} (hd : decode c.code pc = .ok (ins, len)) {q : Nat × List Value × AHeap} (hs : hstep ws k y ins len pc st H = some q) (S : Sim Z ws k sa n0 H T.heap) (N : Fr n0 locs)
    (hc : cells + (q.2.2.length - H.length) ≤ R.cells) (hl : slots + (tot ws q.2.2 - tot ws H) ≤ R.slots) (hz0 : T.heap.size = s.heap.size + cells) :
    Beh p l e R s m args below meth c T Z ws k sa n0 cells slots H (fr (adr k sa n0) m pc ls st) q.1 ls q.2.1 q.2.2 := by
  unfold hstep at hs
  split at hs
  · obtain ⟨rfl, hs⟩ := chk_some hs
    exact hGet_sound hw X hx hZ hown hd hs S N
  · obtain ⟨rfl, hs⟩ := chk_some hs
    exact hPut_sound hw X hx hZ hown hnm hd hs S N
  · obtain ⟨rfl, hs⟩ := chk_some hs
    exact hNew_sound hw X hx hZ hown hd hs S N hc hl hz0
  · obtain ⟨rfl, hs⟩ := chk_some hs
    exact hNewA_sound hw X hx hZ hd hs S N hc hl hz0
  · obtain ⟨rfl, hs⟩ := chk_some hs
    obtain ⟨j, a, r, ty, vs, v, rfl, q2, ho, hj, hv, rfl⟩ := hLd_some hs
    obtain rfl : ty = _ := of_decide_eq_true ho
    obtain ⟨cl, A, es⟩ := S.2.2.2.2 a _ q2
    have hlt := (List.getElem?_eq_some_iff.mp hv).1
    exact Beh.stay X S N fun target ht => X.iaload hx (j := j) (v := ren (adr k sa n0) v) A.1 (State.isArrayOf_alike hZ.alike A.2.1) A.2.2 (fun g => g.elim hj fun g => by rw [es] at g; simp at g; omega) (by rw [es, List.getElem?_toArray, List.getElem?_map, hv]; rfl) (g := fr (adr k sa n0) m pc ls (.int j :: .ref a :: r)) rfl rfl hd target ht
  · obtain ⟨rfl, hs⟩ := chk_some hs
    obtain ⟨j, a, r, ty, vs, v, rfl, q2, ho, hj, hv, rfl⟩ := hLd_some hs
    obtain rfl : ty = _ := of_decide_eq_true ho
    obtain ⟨cl, A, es⟩ := S.2.2.2.2 a _ q2
    have hlt := (List.getElem?_eq_some_iff.mp hv).1
    exact Beh.stay X S N fun target ht => X.caload hx (j := j) (v := ren (adr k sa n0) v) A.1 (State.isArrayOf_alike hZ.alike A.2.1) A.2.2 (fun g => g.elim hj fun g => by rw [es] at g; simp at g; omega) (by rw [es, List.getElem?_toArray, List.getElem?_map, hv]; rfl) (g := fr (adr k sa n0) m pc ls (.int j :: .ref a :: r)) rfl rfl hd target ht
  · obtain ⟨rfl, hs⟩ := chk_some hs
    obtain ⟨j, a, r, ty, vs, v, rfl, q2, ho, hj, hv, rfl⟩ := hLd_some hs
    obtain rfl : ty = _ := of_decide_eq_true ho
    obtain ⟨cl, A, es⟩ := S.2.2.2.2 a _ q2
    have hlt := (List.getElem?_eq_some_iff.mp hv).1
    exact Beh.stay X S N fun target ht => X.laload hx (j := j) (v := ren (adr k sa n0) v) A.1 (State.isArrayOf_alike hZ.alike A.2.1) A.2.2 (fun g => g.elim hj fun g => by rw [es] at g; simp at g; omega) (by rw [es, List.getElem?_toArray, List.getElem?_map, hv]; rfl) (g := fr (adr k sa n0) m pc ls (.int j :: .ref a :: r)) rfl rfl hd target ht
  · obtain ⟨rfl, hs⟩ := chk_some hs
    obtain ⟨j, a, r, ty, vs, v, rfl, q2, ho, hj, hv, rfl⟩ := hLd_some hs
    obtain ⟨cl, A, es⟩ := S.2.2.2.2 a _ q2
    have hlt := (List.getElem?_eq_some_iff.mp hv).1
    simp only [okB, Bool.or_eq_true, decide_eq_true_eq] at ho
    rcases ho with rfl | rfl
    · exact Beh.stay X S N fun target ht => X.baloadBytes hx (j := j) (v := ren (adr k sa n0) v) A.1 (State.isArrayOf_alike hZ.alike A.2.1) A.2.2 (fun g => g.elim hj fun g => by rw [es] at g; simp at g; omega) (by rw [es, List.getElem?_toArray, List.getElem?_map, hv]; rfl) (g := fr (adr k sa n0) m pc ls (.int j :: .ref a :: r)) rfl rfl hd target ht
    · exact Beh.stay X S N fun target ht => X.baloadBooleans hx (j := j) (v := ren (adr k sa n0) v) A.1 (State.isArrayOf_alike hZ.alike A.2.1) A.2.2 (fun g => g.elim hj fun g => by rw [es] at g; simp at g; omega) (by rw [es, List.getElem?_toArray, List.getElem?_map, hv]; rfl) (g := fr (adr k sa n0) m pc ls (.int j :: .ref a :: r)) rfl rfl hd target ht
  · obtain ⟨rfl, hs⟩ := chk_some hs
    obtain ⟨v, j, a, r, ty, vs, v', rfl, q2, ho, hk, hj, hlt, hv, rfl⟩ := hSt_some hs
    obtain rfl : ty = _ := of_decide_eq_true ho
    obtain ⟨cl, A, es⟩ := S.2.2.2.2 a _ q2
    cases v <;> simp only [putv, Option.some.injEq, reduceCtorEq] at hv
    subst hv
    obtain ⟨T', h', X', e', W, st'⟩ := stI X hx hZ rfl A (j := j) (fun g => g.elim hj fun g => by rw [es] at g; simp at g; omega) (g := fr (adr k sa n0) m pc ls (.int _ :: .int j :: .ref a :: r)) rfl rfl hd
    exact st_beh X' e' W S N q2 hk st'
  · obtain ⟨rfl, hs⟩ := chk_some hs
    obtain ⟨v, j, a, r, ty, vs, v', rfl, q2, ho, hk, hj, hlt, hv, rfl⟩ := hSt_some hs
    obtain rfl : ty = _ := of_decide_eq_true ho
    obtain ⟨cl, A, es⟩ := S.2.2.2.2 a _ q2
    cases v <;> simp only [putv, Option.some.injEq, reduceCtorEq] at hv
    subst hv
    obtain ⟨T', h', X', e', W, st'⟩ := stC X hx hZ rfl A (j := j) (fun g => g.elim hj fun g => by rw [es] at g; simp at g; omega) (g := fr (adr k sa n0) m pc ls (.int _ :: .int j :: .ref a :: r)) rfl rfl hd
    exact st_beh X' e' W S N q2 hk st'
  · obtain ⟨rfl, hs⟩ := chk_some hs
    obtain ⟨v, j, a, r, ty, vs, v', rfl, q2, ho, hk, hj, hlt, hv, rfl⟩ := hSt_some hs
    obtain rfl : ty = _ := of_decide_eq_true ho
    obtain ⟨cl, A, es⟩ := S.2.2.2.2 a _ q2
    cases v <;> simp only [putv, Option.some.injEq, reduceCtorEq] at hv
    subst hv
    obtain ⟨T', h', X', e', W, st'⟩ := stJ X hx hZ rfl A (j := j) (fun g => g.elim hj fun g => by rw [es] at g; simp at g; omega) (g := fr (adr k sa n0) m pc ls (.long _ :: .int j :: .ref a :: r)) rfl rfl hd
    exact st_beh X' e' W S N q2 hk st'
  · obtain ⟨rfl, hs⟩ := chk_some hs
    obtain ⟨v, j, a, r, ty, vs, v', rfl, q2, ho, hk, hj, hlt, hv, rfl⟩ := hSt_some hs
    obtain ⟨cl, A, es⟩ := S.2.2.2.2 a _ q2
    simp only [okB, Bool.or_eq_true, decide_eq_true_eq] at ho
    rcases ho with rfl | rfl
    · cases v <;> simp only [putv, Option.some.injEq, reduceCtorEq] at hv
      subst hv
      obtain ⟨T', h', X', e', W, st'⟩ := stB X hx hZ rfl A (j := j) (fun g => g.elim hj fun g => by rw [es] at g; simp at g; omega) (g := fr (adr k sa n0) m pc ls (.int _ :: .int j :: .ref a :: r)) rfl rfl hd
      exact st_beh X' e' W S N q2 hk st'
    · cases v <;> simp only [putv, Option.some.injEq, reduceCtorEq] at hv
      subst hv
      obtain ⟨T', h', X', e', W, st'⟩ := stZ X hx hZ rfl A (j := j) (fun g => g.elim hj fun g => by rw [es] at g; simp at g; omega) (g := fr (adr k sa n0) m pc ls (.int _ :: .int j :: .ref a :: r)) rfl rfl hd
      exact st_beh X' e' W S N q2 hk st'
  · obtain ⟨rfl, hs⟩ := chk_some hs
    obtain ⟨a, r, ty, vs, rfl, q2, rfl⟩ := hLen_some hs
    obtain ⟨cl, A, es⟩ := S.2.2.2.2 a _ q2
    have ez : cl.slots.size = vs.length := by rw [es]; simp
    refine Beh.stay X S N fun target ht => X.arraylength hx (cell := cl) A.1 (State.isArrayOf_alike hZ.alike A.2.1) (g := fr (adr k sa n0) m pc ls (.ref a :: r)) rfl rfl hd target ?_
    rw [ez]; exact ht
  · obtain ⟨rfl, hs⟩ := chk_some hs
    obtain ⟨v, hv, rfl⟩ := Option.map_eq_some_iff.mp hs
    exact Beh.stay X S N (X.ldcInt hx hown (mvT hZ (hw _ (rCon_mem hv))) (g := fr (adr k sa n0) m pc ls st) rfl hd)
  · obtain ⟨rfl, hs⟩ := chk_some hs
    obtain ⟨v, hv, rfl⟩ := Option.map_eq_some_iff.mp hs
    exact Beh.stay X S N (X.ldcwInt hx hown (mvT hZ (hw _ (rCon_mem hv))) (g := fr (adr k sa n0) m pc ls st) rfl hd)
  · obtain ⟨rfl, hs⟩ := chk_some hs
    obtain ⟨v, hv, rfl⟩ := Option.map_eq_some_iff.mp hs
    exact Beh.stay X S N (X.ldc2Long hx hown (mvT hZ (hw _ (rConL_mem hv))) (g := fr (adr k sa n0) m pc ls st) rfl hd)
  · cases hs
end H
theorem hstep_size {ws : Ws} {k : Nat} {y : MethodName} {ins : Instr} {len pc : Nat} {st : List Value} {H : AHeap} {q : Nat × List Value × AHeap} (hs : hstep ws k y ins len pc st H = some q) : H.length ≤ q.2.2.length ∧ tot ws H ≤ tot ws q.2.2 := by
  unfold hstep at hs
  split at hs
  · obtain ⟨rfl, hs⟩ := chk_some hs
    unfold hGet at hs
    split at hs
    · split at hs
      · split at hs
        · obtain ⟨v, -, rfl⟩ := Option.map_eq_some_iff.mp hs; exact ⟨Nat.le_refl _, Nat.le_refl _⟩
        · cases hs
      · cases hs
    · cases hs
  · obtain ⟨rfl, hs⟩ := chk_some hs
    unfold hPut at hs
    split at hs
    · split at hs
      · rename_i C j ty C' vs q1 q2
        split at hs
        · obtain ⟨v, -, rfl⟩ := Option.map_eq_some_iff.mp hs
          exact ⟨Nat.le_of_eq (by rw [List.length_set]), Nat.le_of_eq (tot_set (o := (.object C', vs)) (o' := (.object C', vs.set j v)) q2 rfl).symm⟩
        · cases hs
      · cases hs
    · cases hs
  · obtain ⟨rfl, hs⟩ := chk_some hs
    unfold hNew at hs
    split at hs
    · split at hs
      · cases hs; exact ⟨by simp, by rw [tot_app]; omega⟩
      · cases hs
    · cases hs
  · obtain ⟨rfl, hs⟩ := chk_some hs
    unfold hNewA at hs
    split at hs
    · split at hs
      · cases hs; exact ⟨by simp, by rw [tot_app]; omega⟩
      · cases hs
    · cases hs
  all_goals first
    | (obtain ⟨rfl, hs⟩ := chk_some hs; obtain ⟨j, a, r, ty, vs, v, rfl, q2, ho, hj, hv, rfl⟩ := hLd_some hs; exact ⟨Nat.le_refl _, Nat.le_refl _⟩)
    | (obtain ⟨rfl, hs⟩ := chk_some hs; obtain ⟨v, j, a, r, ty, vs, v', rfl, q2, ho, hk, hj, hlt, hv, rfl⟩ := hSt_some hs; exact ⟨Nat.le_of_eq (by rw [List.length_set]), Nat.le_of_eq (tot_set (o := (.array ty, vs)) (o' := (.array ty, vs.set _ v')) q2 (by simp [cost])).symm⟩)
    | (obtain ⟨rfl, hs⟩ := chk_some hs; obtain ⟨a, r, ty, vs, rfl, q2, rfl⟩ := hLen_some hs; exact ⟨Nat.le_refl _, Nat.le_refl _⟩)
    | (obtain ⟨rfl, hs⟩ := chk_some hs; obtain ⟨v, hv, rfl⟩ := Option.map_eq_some_iff.mp hs; exact ⟨Nat.le_refl _, Nat.le_refl _⟩)
    | (cases hs; done)
end Jvm.Own
namespace Jvm.Own
open Sem ClassFile Op Lib Jvm.Stand Jvm.Free Jvm.LawKit Jvm.RoadKit
/-! OWN 5: the run is the machine's -/
theorem ent_ren (f : Nat → Nat) : ∀ as : List Value, ent (as.map (ren f)) = (ent as).map (renS f)
  | [] => rfl
  | v :: r => by
    simp only [List.map_cons, ent, ren_cat, ent_ren f r]
    split <;> rfl
theorem fill_eq : ∀ (as : List Value) (acc : Array Slot), as.foldl (fun acc v => if v.category = 2 then (acc.push (.val v)).push .second else acc.push (.val v)) acc = acc ++ (ent as).toArray
  | [], acc => by simp [ent]
  | v :: r, acc => by
    simp only [List.foldl_cons, ent]
    split
    · rw [fill_eq r]; simp [← Array.toList_inj]
    · rw [fill_eq r]; simp [← Array.toList_inj]
theorem entry_eq (f : Nat → Nat) (m : MethodId) (as : List Value) (mx : Nat) : entryFrame m (as.map (ren f)).toArray mx = fr f m 0 (entry as mx) [] := by
  have h : argsToLocals (as.map (ren f)).toArray mx = ((entry as mx).map (renS f)).toArray := by
    unfold argsToLocals entry
    simp only [List.foldl_toArray']
    rw [fill_eq, ent_ren]
    simp [← Array.toList_inj, renS]
  unfold entryFrame
  rw [h]; rfl
theorem entry_len {as : List Value} {mx : Nat} (h : (ent as).length ≤ mx) : (entry as mx).length = mx := by simp [entry]; omega
theorem wsum_ren (f : Nat → Nat) (st : List Value) : ((st.map (ren f)).map fun v => v.category).sum = wsum st := by
  unfold wsum
  rw [List.map_map]
  congr 1
  apply List.map_congr_left
  intro v _
  exact ren_cat f v
section Inv
variable {ws : Ws} {dn : Dn} {k : Nat} {y : MethodName} {bytes : ByteArray} {ret : Option FieldType} {pc : Nat} {ls : List Slot} {st : List Value} {H : AHeap}
theorem cR_some {i : Nat} {y' : MethodName} {b : ByteArray} {mx na sl : Nat} {r : Option FieldType} (h : cR ws dn y i = some (y', b, mx, r, na, sl)) :
    Jvm.Cond.methodLink y.cls i y' ∈ ws ∧ Jvm.Cond.code y' b mx r ∈ ws ∧ Jvm.Cond.initialized y'.cls ∈ ws ∧ Jvm.plainName y'.cls = true ∧ (y'.cls ≠ "java/lang/invoke/MethodHandle" ∧ y'.cls ≠ "java/lang/invoke/VarHandle") ∧ rCode ws y' = some (b, mx, r) ∧
    ∃ f' l' f l sig, dnOf dn y' = some (f', l') ∧ dnOf dn y = some (f, l) ∧ parseMethodDescriptor y'.desc = some sig ∧ na = sig.parameters.length ∧ f' + 1 ≤ f ∧ sl + (mx + 11) + l' ≤ l := by
  unfold cR at h
  split at h
  · cases h
  · rename_i z q1
    split at h
    · rename_i b' mx' r' f' l' f l sig q2 q3 q4 q5
      split at h
      · rename_i g
        cases h
        obtain ⟨g1, g2, g3, g4, g5, g6⟩ := g
        exact ⟨rMth_mem q1, rCode_mem q2, hasInit_mem g1, g2, ⟨g3, g4⟩, q2, f', l', f, l, sig, q3, q4, q5, rfl, g5, by omega⟩
      · cases h
    · cases h
theorem act_ret {v : Option Value} (h : act ws dn k y bytes ret pc ls st H = some (.inl v)) : (∃ z r t, decode bytes pc = .ok (.ireturn, 1) ∧ st = .int z :: r ∧ ret = some t ∧ (t = .int ∨ t = .boolean ∨ t = .byte ∨ t = .char ∨ t = .short) ∧ v = some (.int (nar t z))) ∨
    (∃ z, decode bytes pc = .ok (.lreturn, 1) ∧ st = [.long z] ∧ ret = some .long ∧ v = some (.long z)) ∨ (decode bytes pc = .ok (.return_, 1) ∧ st = [] ∧ ret = none ∧ v = none) := by
  unfold act at h
  split at h
  · cases h
  rename_i ins len hd
  split at h
  · cases h
  split at h
  · cases h
  unfold cstep at h
  split at h
  · obtain ⟨rfl, h⟩ := chk_some h
    split at h
    · split at h
      · rename_i g; cases h; exact Or.inl ⟨_, _, _, hd, rfl, rfl, g, rfl⟩
      · cases h
    · cases h
  · obtain ⟨rfl, h⟩ := chk_some h
    split at h
    · cases h; exact Or.inr (Or.inl ⟨_, hd, rfl, rfl, rfl⟩)
    · cases h
  · obtain ⟨rfl, h⟩ := chk_some h
    split at h
    · cases h; exact Or.inr (Or.inr ⟨hd, rfl, rfl, rfl⟩)
    · cases h
  · obtain ⟨rfl, h⟩ := chk_some h
    split at h
    · split at h <;> cases h
    · cases h
  · obtain ⟨rfl, h⟩ := chk_some h
    split at h
    · split at h
      · split at h <;> cases h
      · cases h
    · split at h
      · split at h
        · split at h <;> cases h
        · cases h
      · cases h
  · obtain ⟨rfl, h⟩ := chk_some h
    split at h
    · split at h
      · split at h
        · split at h <;> cases h
        · cases h
      · cases h
    · cases h
  · cases h
theorem act_step {pc' : Nat} {ls' : List Slot} {st' : List Value} {H' : AHeap} (h : act ws dn k y bytes ret pc ls st H = some (.inr (.inl (pc', ls', st', H')))) : ∃ ins len, decode bytes pc = .ok (ins, len) ∧
    ((xstep ins len pc ls st = some (pc', ls', st') ∧ H' = H) ∨ (ls' = ls ∧ hstep ws k y ins len pc st H = some (pc', st', H')) ∨
     (∃ i sl a r, ins = .invokespecial i ∧ len = 3 ∧ oR ws dn y i = some sl ∧ st = .ref a :: r ∧ wsum r ≤ sl ∧ pc' = pc + 3 ∧ ls' = ls ∧ st' = r ∧ H' = H)) := by
  unfold act at h
  split at h
  · cases h
  rename_i ins len hd
  refine ⟨ins, len, hd, ?_⟩
  split at h
  · rename_i g; cases h; exact Or.inl ⟨g, rfl⟩
  split at h
  · rename_i g; cases h; exact Or.inr (Or.inl ⟨rfl, g⟩)
  unfold cstep at h
  split at h
  · obtain ⟨rfl, h⟩ := chk_some h
    split at h
    · split at h <;> cases h
    · cases h
  · obtain ⟨rfl, h⟩ := chk_some h
    split at h <;> cases h
  · obtain ⟨rfl, h⟩ := chk_some h
    split at h <;> cases h
  · obtain ⟨rfl, h⟩ := chk_some h
    split at h
    · split at h <;> cases h
    · cases h
  · obtain ⟨rfl, h⟩ := chk_some h
    split at h
    · rename_i sl ho
      split at h
      · split at h
        · rename_i g; cases h; exact Or.inr (Or.inr ⟨_, sl, _, _, rfl, rfl, ho, rfl, g, rfl, rfl, rfl, rfl⟩)
        · cases h
      · cases h
    · split at h
      · split at h
        · split at h <;> cases h
        · cases h
      · cases h
  · obtain ⟨rfl, h⟩ := chk_some h
    split at h
    · split at h
      · split at h
        · split at h <;> cases h
        · cases h
      · cases h
    · cases h
  · cases h
/-- the three kinds of call -/
theorem act_call {y' : MethodName} {b : ByteArray} {r : Option FieldType} {en : List Slot} {rest : List Value} (h : act ws dn k y bytes ret pc ls st H = some (.inr (.inr (y', b, r, en, rest)))) : ∃ i mx na sl as, cR ws dn y i = some (y', b, mx, r, na, sl) ∧ en = entry as mx ∧ (ent as).length ≤ mx ∧ wsum rest ≤ sl ∧
    ((decode bytes pc = .ok (.invokestatic i, 3) ∧ Jvm.Cond.static y' ∈ ws ∧ as.length = na ∧ st = as.reverse ++ rest) ∨
     (∃ a as', as = .ref a :: as' ∧ as'.length = na ∧ st = as'.reverse ++ .ref a :: rest ∧ Jvm.Cond.instanceMethod y' ∈ ws ∧
      ((decode bytes pc = .ok (.invokespecial i, 3) ∧ y'.name = "<init>" ∧ r = none) ∨
       (decode bytes pc = .ok (.invokevirtual i, 3) ∧ ∃ C vs, H[a]? = some (.object C, vs) ∧ ((Jvm.Cond.privateMethod y' ∈ ws ∧ ∃ ki, Jvm.Cond.instantiable y'.cls ki ∈ ws) ∨ (Jvm.Cond.declares y' ∈ ws ∧ Jvm.Cond.selects y'.cls y' y' ∈ ws ∧ C = y'.cls)))))) := by
  unfold act at h
  split at h
  · cases h
  rename_i ins len hd
  split at h
  · cases h
  split at h
  · cases h
  unfold cstep at h
  split at h
  · obtain ⟨rfl, h⟩ := chk_some h
    split at h
    · split at h <;> cases h
    · cases h
  · obtain ⟨rfl, h⟩ := chk_some h
    split at h <;> cases h
  · obtain ⟨rfl, h⟩ := chk_some h
    split at h <;> cases h
  · rename_i i _ _
    obtain ⟨rfl, h⟩ := chk_some h
    split at h
    · rename_i y1 b1 mx r1 na sl hq
      split at h
      · rename_i g
        cases h
        unfold sR at hq
        split at hq
        · rename_i q hc
          split at hq
          · rename_i hs
            cases hq
            refine ⟨i, mx, na, sl, _, hc, rfl, g.2.2, g.2.1, Or.inl ⟨hd, hasStat_mem hs, by simp; omega, by simp⟩⟩
          · cases hq
        · cases hq
      · cases h
    · cases h
  · rename_i i _ _
    obtain ⟨rfl, h⟩ := chk_some h
    split at h
    · split at h
      · split at h <;> cases h
      · cases h
    · split at h
      · rename_i y1 b1 mx r1 na sl hq
        split at h
        · rename_i a rest' hdrop
          split at h
          · rename_i g
            cases h
            unfold nR at hq
            split at hq
            · rename_i q hc
              split at hq
              · rename_i hs
                cases hq
                refine ⟨i, mx, na, sl, _, hc, rfl, g.2.1, g.1, Or.inr ⟨a, _, rfl, by simp; omega, ?_, hasIM_mem hs.2.1, Or.inl ⟨hd, hs.1, hs.2.2⟩⟩⟩
                rw [List.reverse_reverse, ← hdrop, List.take_append_drop]
              · cases hq
            · cases hq
          · cases h
        · cases h
      · cases h
  · rename_i i _ _
    obtain ⟨rfl, h⟩ := chk_some h
    split at h
    · rename_i pv y1 b1 mx r1 na sl hq
      split at h
      · rename_i a rest' hdrop
        split at h
        · rename_i C vs hH
          split at h
          · rename_i g
            cases h
            unfold vR at hq
            split at hq
            · rename_i q hc
              split at hq
              · rename_i hs
                split at hq
                · rename_i hp; cases hq
                  obtain ⟨ki, hki⟩ := Option.isSome_iff_exists.mp hp.2
                  exact ⟨i, mx, na, sl, _, hc, rfl, g.2.2.1, g.2.1, Or.inr ⟨a, _, rfl, by simp; omega, by rw [List.reverse_reverse, ← hdrop, List.take_append_drop], hasIM_mem hs, Or.inr ⟨hd, C, vs, hH, Or.inl ⟨hasPriv_mem hp.1, ki, rInst_mem hki⟩⟩⟩⟩
                · split at hq
                  · rename_i hp; cases hq
                    exact ⟨i, mx, na, sl, _, hc, rfl, g.2.2.1, g.2.1, Or.inr ⟨a, _, rfl, by simp; omega, by rw [List.reverse_reverse, ← hdrop, List.take_append_drop], hasIM_mem hs, Or.inr ⟨hd, C, vs, hH, Or.inr ⟨hasDecl_mem hp.1, hasSel_mem hp.2, g.1.resolve_left (by simp)⟩⟩⟩⟩
                  · cases hq
              · cases hq
            · cases hq
          · cases h
        · cases h
      · cases h
    · cases h
  · cases h
theorem act_size {pc' : Nat} {ls' : List Slot} {st' : List Value} {H' : AHeap} (h : act ws dn k y bytes ret pc ls st H = some (.inr (.inl (pc', ls', st', H')))) : H.length ≤ H'.length ∧ tot ws H ≤ tot ws H' ∧ ls'.length = ls.length := by
  obtain ⟨ins, len, hd, ⟨g, rfl⟩ | ⟨rfl, g⟩ | ⟨i, sl, a, r, -, -, -, -, -, -, rfl, -, rfl⟩⟩ := act_step h
  · exact ⟨Nat.le_refl _, Nat.le_refl _, xstep_size g⟩
  · have := hstep_size g; exact ⟨this.1, this.2, rfl⟩
  · exact ⟨Nat.le_refl _, Nat.le_refl _, rfl⟩
end Inv
theorem run_size {ws : Ws} {dn : Dn} {k : Nat} : ∀ {n : Nat} {y : MethodName} {bytes : ByteArray} {ret : Option FieldType} {pc : Nat} {ls : List Slot} {st : List Value} {H : AHeap} {v : Option Value} {H' : AHeap}, run ws dn k n y bytes ret pc ls st H = some (v, H') → H.length ≤ H'.length ∧ tot ws H ≤ tot ws H'
  | 0, _, _, _, _, _, _, _, _, _, h => by cases h
  | n + 1, y, bytes, ret, pc, ls, st, H, v, H', h => by
    rw [run] at h
    split at h
    · cases h
    · cases h; exact ⟨Nat.le_refl _, Nat.le_refl _⟩
    · rename_i g
      have h1 := run_size h
      have h2 := act_size g
      exact ⟨Nat.le_trans h2.1 h1.1, Nat.le_trans h2.2.1 h1.2⟩
    · split at h
      · rename_i g
        have h1 := run_size h
        have h2 := run_size g
        exact ⟨Nat.le_trans h2.1 h1.1, Nat.le_trans h2.2 h1.2⟩
      · cases h
section Snd
/-- from here on the machine comes to a return of v with the heap H' -/
def Goes (p : Program) (l : Launch) (e : Env) (R : Room) (s : State) (m : MethodId) (args : Array Value) (below : List Frame) (meth : Method) (c : Code) (T : State) (Z : State) (ws : Ws) (k sa n0 cells slots : Nat) (H : AHeap) (g : JFrame) (ret : Option FieldType) (v : Option Value) (H' : AHeap) : Prop :=
  ∃ T' locs', Stand p l e R s m args below meth c T' locs' (cells + (H'.length - H.length)) (slots + (tot ws H' - tot ws H)) ∧ Sim Z ws k sa n0 H' T'.heap ∧ Fr n0 locs' ∧ (ret = none → v = none) ∧
    ∀ fs, (∀ (fj : JFrame) (acts : List Action), fj.method = m → fj.locked = none → fj.entered = [] → (doReturn e (T'.setTop fj) acts (v.map (ren (adr k sa n0)))).1 = T'.setFrames fs) → Steps p.tables e below (T.setTop g) (T'.setFrames fs)
variable {p : Program} {l : Launch} {e : Env} {R : Room} {s : State} {m : MethodId} {args : Array Value} {below : List Frame} {meth : Method} {c : Code} {T : State} {locs : List Loc} {cells slots : Nat}
  {Z : State} {a0 : Array Value} {ws : Ws} {dn : Dn} {k sa n0 : Nat}
theorem Goes.of {T1 : State} {H H1 H' : AHeap} {g g1 : JFrame} {ret : Option FieldType} {v : Option Value} (hst : ∀ target, Steps p.tables e below (T1.setTop g1) target → Steps p.tables e below (T.setTop g) target)
    (G : Goes p l e R s m args below meth c T1 Z ws k sa n0 (cells + (H1.length - H.length)) (slots + (tot ws H1 - tot ws H)) H1 g1 ret v H') (m1 : H.length ≤ H1.length ∧ tot ws H ≤ tot ws H1) (m2 : H1.length ≤ H'.length ∧ tot ws H1 ≤ tot ws H') :
    Goes p l e R s m args below meth c T Z ws k sa n0 cells slots H g ret v H' := by
  obtain ⟨T', locs', X', S', N', hv, go⟩ := G
  have e1 : cells + (H1.length - H.length) + (H'.length - H1.length) = cells + (H'.length - H.length) := by omega
  have e2 : slots + (tot ws H1 - tot ws H) + (tot ws H' - tot ws H1) = slots + (tot ws H' - tot ws H) := by omega
  rw [e1, e2] at X'
  exact ⟨T', locs', X', S', N', hv, fun fs hf => hst _ (go fs hf)⟩
def Snd (Z : State) (ws : Ws) (dn : Dn) (k sa n0 n : Nat) : Prop :=
  ∀ (y : MethodName) (bytes : ByteArray) (ret : Option FieldType) (pc : Nat) (ls : List Slot) (st : List Value) (H : AHeap) (v : Option Value) (H' : AHeap), run ws dn k n y bytes ret pc ls st H = some (v, H') →
  ∀ (p : Program) (l : Launch) (e : Env) (R : Room) (s : State) (m : MethodId) (args : Array Value) (below : List Frame) (meth : Method) (c : Code) (T : State) (locs : List Loc) (cells slots : Nat),
    Stand p l e R s m args below meth c T locs cells slots → p.tables.exec = Jvm.exec → Z.Warmed39 s.vm → s.vm.findClass y.cls = some m.cls → meth.name = y.name → meth.sig.returnType = ret → c.code = bytes → ls.length = c.maxLocals →
    (∀ f lc, dnOf dn y = some (f, lc) → f ≤ R.frames ∧ lc ≤ R.locals) → Sim Z ws k sa n0 H T.heap → Fr n0 locs → cells + (H'.length - H.length) ≤ R.cells → slots + (tot ws H' - tot ws H) ≤ R.slots → T.heap.size = s.heap.size + cells →
    Goes p l e R s m args below meth c T Z ws k sa n0 cells slots H (fr (adr k sa n0) m pc ls st) ret v H'
theorem met_of {n : Nat} (ih : Snd Z ws dn k sa n0 n) (l : Launch) {y : MethodName} {b : ByteArray} {mx f lc : Nat} {r : Option FieldType} (wsx : List Jvm.Cond) (hp : Jvm.plainName y.cls = true) {as : List Value} (he : (ent as).length ≤ mx) {H H1 : AHeap} {v : Option Value}
    (hrun : run ws dn k n y b r 0 (entry as mx) [] H = some (v, H1)) (hdn : ∀ f' l', dnOf dn y = some (f', l') → f' ≤ f ∧ l' ≤ lc) {h : Heap} (S : Sim Z ws k sa n0 H h) {rc rs : Nat} (hc : H1.length - H.length ≤ rc) (hs : tot ws H1 - tot ws H ≤ rs) :
    MetFree l y (head1 (Jvm.Cond.code y b mx r :: wsx) ({ frames := f, cells := rc, slots := rs, locals := lc } : Room)) (fun a U => a = (as.map (ren (adr k sa n0))).toArray ∧ Z.Warmed39 U.vm ∧ U.heap = h) (fun _ _ _ _ _ => True)
      (fun _ U o U' => ∃ w L, o = .returned w ∧ (w = v.map (ren (adr k sa n0)) ∧ Sim Z ws k sa n0 H1 U'.heap ∧ Fr n0 L) ∧ FrameEnd U o U' L (H1.length - H.length) (tot ws H1 - tot ws H)) := by
  refine MetFree.of_bodySF (plainFor_of_name hp) hisR ?_
  intro p e s m args below meth c s₁ Bd hml0 hP hK
  obtain ⟨rfl, hZ, hh⟩ := hP
  have hown : s.vm.findClass y.cls = some m.cls := findClass_of_methodNamed Bd.named
  have hnm := (name_of_methodNamed Bd.named Bd.method).1
  have X0 : Stand p l e ({ frames := f, cells := rc, slots := rs, locals := lc } : Room) s m (as.map (ren (adr k sa n0))).toArray below meth c s₁ [] 0 0 := Stand.of_body Bd
  have e0 : s₁.heap = h := by rw [← hh, Bd.state]; rfl
  obtain ⟨T', locs', X', S', N', hv, go⟩ := ih y b r 0 (entry as mx) [] H v H1 hrun p l e _ s m _ below meth c s₁ [] 0 0 X0 Bd.exec hZ hown hnm Bd.returns Bd.bytes (by rw [entry_len he]; exact hml0.symm) hdn (by rw [e0]; exact S) (Fr.nil n0) (by rw [Nat.zero_add]; exact hc) (by rw [Nat.zero_add]; exact hs) (by rw [e0, ← hh, Nat.add_zero])
  obtain ⟨fs, hr, hrun', hended, hW, hsame⟩ := X'.leave (v := v.map (ren (adr k sa n0))) (fun hn => by rw [Bd.returns] at hn; rw [hv hn]; rfl)
  refine ⟨_, _, castTop (entry_eq _ m as mx) (go fs hr), hrun', hended, _, locs', rfl, ⟨rfl, S', N'⟩, ⟨_, rfl⟩, hW, hsame.mono (Nat.le_of_eq (Nat.zero_add _)) (Nat.le_of_eq (Nat.zero_add _))⟩
set_option maxHeartbeats 2000000 in
theorem snd (hw : ∀ d ∈ ws, d.before a0 Z = true) : ∀ n, Snd Z ws dn k sa n0 n
  | 0 => fun y bytes ret pc ls st H v H' h => by cases h
  | n + 1 => fun y bytes ret pc ls st H v H' h p l e R s m args below meth c T locs cells slots X hx hZ hown hnm hret hby hls hF S N hc hl hz0 => by
    have ih := snd hw n
    rw [run] at h
    split at h
    · cases h
    · rename_i v' ha
      cases h
      have stay : ∀ {v : Option Value}, (ret = none → v = none) → (∀ fs, (∀ (fj : JFrame) (acts : List Action), fj.method = m → fj.locked = none → fj.entered = [] → (doReturn e (T.setTop fj) acts (v.map (ren (adr k sa n0)))).1 = T.setFrames fs) → Steps p.tables e below (T.setTop (fr (adr k sa n0) m pc ls st)) (T.setFrames fs)) →
          Goes p l e R s m args below meth c T Z ws k sa n0 cells slots H (fr (adr k sa n0) m pc ls st) ret v H := fun hv hg => ⟨T, locs, by rw [Nat.sub_self, Nat.sub_self]; exact X, S, N, hv, hg⟩
      rcases act_ret ha with ⟨z, r, t, hd, rfl, rfl, ht, rfl⟩ | ⟨z, hd, rfl, rfl, rfl⟩ | ⟨hd, rfl, rfl, rfl⟩
      · refine stay (fun h => by cases h) fun fs hf => ?_
        rcases ht with rfl | ht
        · exact retOut X hx hret (w := .int z) (rest := r.map (ren (adr k sa n0))) rfl (Or.inl ⟨rfl, Or.inl rfl, z, rfl⟩) (hb hby hd) hf
        · exact retN X hx hret ht (hb hby hd) hf
      · exact stay (fun h => by cases h) fun fs hf => retOut X hx hret (w := .long z) (rest := []) rfl (Or.inr (Or.inl ⟨rfl, rfl, z, rfl⟩)) (hb hby hd) hf
      · exact stay (fun _ => rfl) fun fs hf => X.returnOut hx hret (hb hby hd) hf
    · rename_i pc' ls' st' H1 ha
      have m1 := act_size ha
      have m2 := run_size h
      obtain ⟨ins, len, hd, ⟨g, rfl⟩ | ⟨rfl, g⟩ | ⟨i, sl, a, r, rfl, rfl, ho, rfl, hW, rfl, rfl, rfl, rfl⟩⟩ := act_step ha
      · obtain ⟨T', locs', X', S', N', hv, go⟩ := ih y bytes ret pc' ls' st' H1 v H' h p l e R s m args below meth c T locs cells slots X hx hZ hown hnm hret hby (m1.2.2.trans hls) hF S N hc hl hz0
        exact ⟨T', locs', X', S', N', hv, fun fs hf => xstep_sound X.here hx (adr k sa n0) (hb hby hd) g (go fs hf)⟩
      · obtain ⟨T1, locs1, X1, S1, N1, st1⟩ := hstep_sound (ls := ls') hw X hx hZ hown hnm (hb hby hd) g S N (by dsimp only; omega) (by dsimp only; omega) hz0
        dsimp only at X1 S1 st1
        have z1 := S.1
        have z2 := S1.1
        have z3 := S.2.1
        have G := ih y bytes ret pc' ls' st' H1 v H' h p l e R s m args below meth c T1 locs1 _ _ X1 hx hZ hown hnm hret hby hls hF S1 N1 (by omega) (by omega) (by omega)
        exact Goes.of st1 G ⟨m1.1, m1.2.1⟩ m2
      · unfold oR at ho
        split at ho
        · rename_i y1 b1 mx1 r1 f1 l1 q1 q2 q3
          split at ho
          · rename_i g
            cases ho
            obtain ⟨rfl, g2, g3, rfl, rfl, g4, g5⟩ := g
            obtain ⟨u1, u2⟩ := hF _ _ q3
            have eb : b1 = ⟨#[0xb1]⟩ := by cases b1; cases g3; rfl
            subst eb
            obtain ⟨T1, X1, e1, st1⟩ := initO X hx hZ hown (hw _ (rMth_mem q1)) (hw _ (hasIM_mem g2)) (hw _ (rCode_mem q2)) rfl (g := fr (adr k sa n0) m pc ls' (.ref a :: st')) rfl (by simp [hls]) rfl (hb hby hd) (by omega) (W := l1 - 12) (by show 2 * 0 + _ ≤ _; rw [wsum_ren]; omega) (by omega)
            have G := ih y bytes ret (pc + 3) ls' st' H1 v H' h p l e R s m args below meth c T1 locs cells slots X1 hx hZ hown hnm hret hby hls hF (by rw [e1]; exact S) N hc hl (by rw [e1]; exact hz0)
            obtain ⟨T', locs', X', S', N', hv, go⟩ := G
            exact ⟨T', locs', X', S', N', hv, fun fs hf => st1 _ (go fs hf)⟩
          · cases ho
        · cases ho
    · rename_i y' b r en rest ha
      split at h
      · rename_i v1 H1 h1
        have m1 := run_size h1
        have m2 := run_size h
        obtain ⟨i, mx, na, sl, as, hq, rfl, hen, hW, hk⟩ := act_call ha
        obtain ⟨w1, w2, w3, w4, w5, -, f', l', f, lc, sig, d1, d2, d3, d4, d5, d6⟩ := cR_some hq
        obtain ⟨u1, u2⟩ := hF _ _ d2
        have hM := met_of ih l [] w4 hen h1 (f := f') (lc := l') (fun f2 l2 q => by rw [d1] at q; cases q; exact ⟨Nat.le_refl _, Nat.le_refl _⟩) S (Nat.le_refl _) (Nat.le_refl _)
        have hB := backOf (R := R) (p := p) (e := e) (below := below) (s := s) (args := args) (len := 3) (W := sl) (rm := ({ frames := f', cells := H1.length - H.length, slots := tot ws H1 - tot ws H, locals := l' } : Room)) (Q := fun w h L => w = v1.map (ren (adr k sa n0)) ∧ Sim Z ws k sa n0 H1 h ∧ Fr n0 L) hM hZ (hw _ w2) (hw _ w3) (by show f' + 1 ≤ _; omega) (by show sl + (mx + 11) + l' ≤ _; omega)
        have hsz : (fr (adr k sa n0) m pc ls st).locals.size = c.maxLocals := by simp [hls]
        have hWW : ∀ st' : List Value, wsum st' ≤ sl → 2 * (fr (adr k sa n0) m pc ls st).monitorRoom + ((st'.map (ren (adr k sa n0))).map fun v => v.category).sum ≤ sl := fun st' q => by show 2 * 0 + _ ≤ _; rw [wsum_ren]; omega
        have hback : ∀ (v' : Option Value) (vm₁ : Vm) (B : Pt), Stand p l e R s m args below meth c B.U B.locs B.cells B.slots →
            (∃ L, (v' = v1.map (ren (adr k sa n0)) ∧ Sim Z ws k sa n0 H1 B.U.heap ∧ Fr n0 L) ∧ B.locs = locs ++ L ∧ B.cells = cells + (H1.length - H.length) ∧ B.slots = slots + (tot ws H1 - tot ws H)) →
            (∀ target, Steps p.tables e below (B.U.setTop { fr (adr k sa n0) m pc ls st with pc := pc + 3, stack := v'.toList ++ rest.map (ren (adr k sa n0)) }) target → Steps p.tables e below (T.setTop (fr (adr k sa n0) m pc ls st)) target) →
            Goes p l e R s m args below meth c T Z ws k sa n0 cells slots H (fr (adr k sa n0) m pc ls st) ret v H' := by
          rintro v' vm₁ ⟨T1, L1, k1, n1⟩ X1 ⟨Lc, ⟨rfl, S1, N1⟩, l1, y1, z1⟩ st1
          dsimp only [Pt.U, Pt.locs, Pt.cells, Pt.slots] at X1 l1 y1 z1 st1 S1
          subst l1 y1 z1
          have z1 := S.1
          have z2 := S1.1
          have z3 := S.2.1
          have G := ih y bytes ret (pc + 3) ls (v1.toList ++ rest) H1 v H' h p l e R s m args below meth c T1 _ _ _ X1 hx hZ hown hnm hret hby hls hF S1 (Fr.app N N1) (by omega) (by omega) (by omega)
          refine Goes.of (fun target ht => st1 target ?_) G m1 m2
          have e1 : (v1.toList ++ rest).map (ren (adr k sa n0)) = (v1.map (ren (adr k sa n0))).toList ++ rest.map (ren (adr k sa n0)) := by cases v1 <;> simp
          rw [← e1]; exact ht
        rcases hk with ⟨hd, ws1, hna, rfl⟩ | ⟨a, as', rfl, hna, rfl, wi, ⟨hd, hn, rfl⟩ | ⟨hd, C, vs, hH, hpd⟩⟩
        · obtain ⟨v', vm₁, B, -, X1, P1, st1⟩ := Jvm.LawKit.callS X hx (y := y') hown (mvT hZ (hw _ w1)) (mvT hZ (hw _ ws1)) (mvT hZ (hw _ w3)) (mvT hZ (hw _ w2)) w5 hB (g := fr (adr k sa n0) m pc ls (as.reverse ++ rest)) rfl hsz (argsL := as.map (ren (adr k sa n0))) (rest := rest.map (ren (adr k sa n0)))
            (fun sg hsg => by rw [d3] at hsg; cases hsg; simp [hna, d4]) (by simp) (hWW rest hW) (hb hby hd) (fun _ _ => ⟨rfl, rfl, by show cells + (H1.length - H.length) ≤ _; omega, by show slots + (tot ws H1 - tot ws H) ≤ _; omega⟩)
          exact hback v' vm₁ B X1 P1 st1
        · obtain ⟨v', vm₁, B, -, X1, P1, st1⟩ := X.specialBack hx (y := y') hn hown (mvT hZ (hw _ w1)) (mvT hZ (hw _ wi)) (mvT hZ (hw _ w2)) w5 hB (g := fr (adr k sa n0) m pc ls (as'.reverse ++ .ref a :: rest)) rfl hsz (Steps.refl _) (a := adr k sa n0 a) (argsL := as'.map (ren (adr k sa n0))) (rest := rest.map (ren (adr k sa n0)))
            (fun sg hsg => by rw [d3] at hsg; cases hsg; simp [hna, d4]) (by simp [ren]) (hWW rest hW) (hb hby hd) (fun _ _ => ⟨rfl, rfl, by show cells + (H1.length - H.length) ≤ _; omega, by show slots + (tot ws H1 - tot ws H) ≤ _; omega⟩)
          exact hback v' vm₁ B X1 P1 fun target ht => st1.trans ht
        · have E := (S.2.2.2.2 a _ hH).1
          rcases hpd with ⟨wp, ki, wki⟩ | ⟨wd, wsel, rfl⟩
          · obtain ⟨cq, hq1, hq2⟩ := E.cell
            have hpa : s.PrivateAt y' := Cond.privateMethod_at (mvP hZ (hw _ wp) (args := #[]))
            have hsel : (Jvm.Cond.selects y'.cls y' y').before args s = true := by
              have wz : (Jvm.Cond.instantiable y'.cls ki).before args s = true := mvT hZ (hw _ wki)
              obtain ⟨c2, k2, i1, i2, -, i4, -⟩ := Cond.instantiable_spec wz
              exact selects_self_of_private i1 i2 (Bool.or_eq_false_iff.mp i4).1 hpa (mvT hZ (hw _ wi)) w5
            obtain ⟨v', vm₁, B, -, X1, P1, st1⟩ := X.privateBack hx (y := y') hown (mvT hZ (hw _ w1)) (mvT hZ (hw _ wi)) hsel hpa (mvT hZ (hw _ w2)) w5 hB (g := fr (adr k sa n0) m pc ls (as'.reverse ++ .ref a :: rest)) rfl hsz (Steps.refl _) (a := adr k sa n0 a) hq1 hq2 (argsL := as'.map (ren (adr k sa n0))) (rest := rest.map (ren (adr k sa n0)))
              (fun sg hsg => by rw [d3] at hsg; cases hsg; simp [hna, d4]) (by simp [ren]) (hWW rest hW) (hb hby hd) (fun _ _ => ⟨rfl, rfl, by show cells + (H1.length - H.length) ≤ _; omega, by show slots + (tot ws H1 - tot ws H) ≤ _; omega⟩)
            exact hback v' vm₁ B X1 P1 fun target ht => st1.trans ht
          · obtain ⟨cq, kq, qa, qb, qc⟩ := isOf hZ rfl E
            obtain ⟨v', vm₁, B, -, X1, P1, st1⟩ := X.virtualBack hx (y := y') (z := y') hown (mvT hZ (hw _ w1)) (mvT hZ (hw _ wd)) (notFace_of_selects (args := #[]) (mvT hZ (hw _ wsel))) (mvT hZ (hw _ wsel)) (mvT hZ (hw _ wi)) w5 hB qa qc (g := fr (adr k sa n0) m pc ls (as'.reverse ++ .ref a :: rest)) rfl hsz (Steps.refl _) (argsL := as'.map (ren (adr k sa n0))) (rest := rest.map (ren (adr k sa n0)))
              (fun sg hsg => by rw [d3] at hsg; cases hsg; simp [hna, d4]) (by simp [ren]) (hWW rest hW) (hb hby hd) (fun _ _ => ⟨rfl, rfl, by show cells + (H1.length - H.length) ≤ _; omega, by show slots + (tot ws H1 - tot ws H) ≤ _; omega⟩)
            exact hback v' vm₁ B X1 P1 fun target ht => st1.trans ht
      · cases h
end Snd
end Jvm.Own
namespace Jvm.Own
open Sem ClassFile Op Lib Jvm.Stand Jvm.Free Jvm.LawKit Jvm.RoadKit
/-! OWN 6: from here on no machine is in sight -/
theorem run_succ {ws : Ws} {dn : Dn} {k : Nat} : ∀ {n : Nat} {y : MethodName} {bytes : ByteArray} {ret : Option FieldType} {pc : Nat} {ls : List Slot} {st : List Value} {H : AHeap} {r : Option Value × AHeap}, run ws dn k n y bytes ret pc ls st H = some r → run ws dn k (n + 1) y bytes ret pc ls st H = some r
  | 0, _, _, _, _, _, _, _, _, h => by cases h
  | n + 1, y, bytes, ret, pc, ls, st, H, r, h => by
    rw [run] at h
    rw [run]
    split at h
    · cases h
    · exact h
    · exact run_succ h
    · split at h
      · rename_i v H1 g
        rw [run_succ g]
        exact run_succ h
      · cases h
theorem run_mono {ws : Ws} {dn : Dn} {k n n' : Nat} {y : MethodName} {bytes : ByteArray} {ret : Option FieldType} {pc : Nat} {ls : List Slot} {st : List Value} {H : AHeap} {r : Option Value × AHeap} (hn : n ≤ n') (h : run ws dn k n y bytes ret pc ls st H = some r) : run ws dn k n' y bytes ret pc ls st H = some r := by
  induction hn with
  | refl => exact h
  | step _ ih => exact run_succ ih
/-- from here on a run comes to a return at which Q holds -/
def W (ws : Ws) (dn : Dn) (k : Nat) (y : MethodName) (bytes : ByteArray) (ret : Option FieldType) (pc : Nat) (ls : List Slot) (st : List Value) (H : AHeap) (Q : Option Value → AHeap → Prop) : Prop :=
  ∃ n v H', run ws dn k n y bytes ret pc ls st H = some (v, H') ∧ Q v H'
section
variable {ws : Ws} {dn : Dn} {k : Nat} {y : MethodName} {bytes : ByteArray} {ret : Option FieldType} {pc : Nat} {ls : List Slot} {st : List Value} {H : AHeap} {Q : Option Value → AHeap → Prop}
theorem W_step {pc' : Nat} {ls' : List Slot} {st' : List Value} {H' : AHeap} (h : act ws dn k y bytes ret pc ls st H = some (.inr (.inl (pc', ls', st', H')))) : W ws dn k y bytes ret pc ls st H Q = W ws dn k y bytes ret pc' ls' st' H' Q := by
  refine propext ⟨fun ⟨n, v, H1, h1, h2⟩ => ?_, fun ⟨n, v, H1, h1, h2⟩ => ⟨n + 1, v, H1, by rw [run, h]; exact h1, h2⟩⟩
  cases n with
  | zero => cases h1
  | succ n => rw [run, h] at h1; exact ⟨n, v, H1, h1, h2⟩
theorem W_ret {v : Option Value} (h : act ws dn k y bytes ret pc ls st H = some (.inl v)) : W ws dn k y bytes ret pc ls st H Q = Q v H := by
  refine propext ⟨fun ⟨n, v, H1, h1, h2⟩ => ?_, fun h2 => ⟨1, v, H, by rw [run, h], h2⟩⟩
  cases n with
  | zero => cases h1
  | succ n => rw [run, h] at h1; cases h1; exact h2
theorem W_call {y' : MethodName} {b : ByteArray} {r : Option FieldType} {en : List Slot} {rest : List Value} (h : act ws dn k y bytes ret pc ls st H = some (.inr (.inr (y', b, r, en, rest)))) :
    W ws dn k y bytes ret pc ls st H Q = W ws dn k y' b r 0 en [] H (fun v H1 => W ws dn k y bytes ret (pc + 3) ls (v.toList ++ rest) H1 Q) := by
  refine propext ⟨fun ⟨n, v, H1, h1, h2⟩ => ?_, fun ⟨n, v, H1, h1, n', v', H', h2, h3⟩ => ⟨max n n' + 1, v', H', ?_, h3⟩⟩
  · cases n with
    | zero => cases h1
    | succ n =>
      rw [run, h] at h1
      dsimp only at h1
      split at h1
      · rename_i v' H' g; exact ⟨n, v', H', g, n, v, H1, h1, h2⟩
      · cases h1
  · rw [run, h]
    dsimp only
    rw [run_mono (Nat.le_max_left _ _) h1]
    exact run_mono (Nat.le_max_right _ _) h2
theorem W.mono {Q' : Option Value → AHeap → Prop} (h : W ws dn k y bytes ret pc ls st H Q) (hq : ∀ v H', Q v H' → Q' v H') : W ws dn k y bytes ret pc ls st H Q' := by
  obtain ⟨n, v, H', h1, h2⟩ := h; exact ⟨n, v, H', h1, hq _ _ h2⟩
theorem act_x {ins : Instr} {len pc' : Nat} {ls' : List Slot} {st' : List Value} (hd : decode bytes pc = .ok (ins, len)) (hx : xstep ins len pc ls st = some (pc', ls', st')) : act ws dn k y bytes ret pc ls st H = some (.inr (.inl (pc', ls', st', H))) := by
  unfold act; rw [hd]; dsimp only; rw [hx]
theorem act_h {ins : Instr} {len pc' : Nat} {st' : List Value} {H' : AHeap} (hd : decode bytes pc = .ok (ins, len)) (hx : xstep ins len pc ls st = none) (hh : hstep ws k y ins len pc st H = some (pc', st', H')) : act ws dn k y bytes ret pc ls st H = some (.inr (.inl (pc', ls, st', H'))) := by
  unfold act; rw [hd]; dsimp only; rw [hx]; dsimp only; rw [hh]
theorem act_c {ins : Instr} {len : Nat} (hd : decode bytes pc = .ok (ins, len)) (hx : xstep ins len pc ls st = none) (hh : hstep ws k y ins len pc st H = none) : act ws dn k y bytes ret pc ls st H = cstep ws dn y ret ins len pc ls st H := by
  unfold act; rw [hd]; dsimp only; rw [hx]; dsimp only; rw [hh]
/-- a plain step -/
theorem w_x {ins : Instr} {len pc' : Nat} {ls' : List Slot} {st' : List Value} (hd : decode bytes pc = .ok (ins, len)) (hx : xstep ins len pc ls st = some (pc', ls', st')) : W ws dn k y bytes ret pc ls st H Q = W ws dn k y bytes ret pc' ls' st' H Q := W_step (act_x hd hx)
/-- a conditional branch -/
theorem w_if {cd : ClassFile.Cond} {o : Int} {x : Int32} {t : Nat} {P : Prop} [Decidable P] (hd : decode bytes pc = .ok (.ifCond cd o, 3)) (hp : ifCond.holds cd x = decide P) (hj : jmp pc o = some t) :
    W ws dn k y bytes ret pc ls (.int x :: st) H Q = if P then W ws dn k y bytes ret t ls st H Q else W ws dn k y bytes ret (pc + 3) ls st H Q := by
  split
  · exact w_x hd (by simp only [xstep, chk, br, hp, hj, if_true]; simp [*])
  · exact w_x hd (by simp only [xstep, chk, br, hp, hj, if_true]; simp [*])
theorem w_icmp {cd : ClassFile.Cond} {o : Int} {x1 x2 : Int32} {t : Nat} {P : Prop} [Decidable P] (hd : decode bytes pc = .ok (.if_icmp cd o, 3)) (hp : if_icmp.holds cd x1 x2 = decide P) (hj : jmp pc o = some t) :
    W ws dn k y bytes ret pc ls (.int x2 :: .int x1 :: st) H Q = if P then W ws dn k y bytes ret t ls st H Q else W ws dn k y bytes ret (pc + 3) ls st H Q := by
  split
  · exact w_x hd (by simp only [xstep, chk, br, hp, hj, if_true]; simp [*])
  · exact w_x hd (by simp only [xstep, chk, br, hp, hj, if_true]; simp [*])
theorem w_get {i j : Nat} {a : Nat} {C : String} {vs : List Value} {v : Value} (hd : decode bytes pc = .ok (.getfield i, 3)) (hr : gfR ws y.cls i = some (C, j)) (ho : H[a]? = some (.object C, vs)) (hv : vs[j]? = some v) :
    W ws dn k y bytes ret pc ls (.ref a :: st) H Q = W ws dn k y bytes ret (pc + 3) ls (v :: st) H Q :=
  W_step (act_h hd rfl (by simp only [hstep, chk, hGet, hr, ho, hv, if_true, Option.map_some]))
theorem w_put {i j : Nat} {a : Nat} {C : String} {ty : FieldType} {vs : List Value} {v v' : Value} {H' : AHeap} (hd : decode bytes pc = .ok (.putfield i, 3)) (hr : pfR ws y.cls y.name i = some (C, j, ty)) (ho : H[a]? = some (.object C, vs)) (hk : k ≤ a) (hj : j < vs.length) (hv : putv ty v = some v') (hH : H.set a (.object C, vs.set j v') = H') :
    W ws dn k y bytes ret pc ls (v :: .ref a :: st) H Q = W ws dn k y bytes ret (pc + 3) ls st H' Q :=
  W_step (act_h hd rfl (by simp only [hstep, chk, hPut, hr, ho, hv, if_true, true_and, hk, hj, Option.map_some, hH, and_self]))
theorem w_new {i : Nat} {C : String} (hd : decode bytes pc = .ok (.new i, 3)) (hr : hNew ws y.cls i pc H st = some (pc + 3, .ref H.length :: st, H ++ [(.object C, (olay ws C).map dflt)])) :
    W ws dn k y bytes ret pc ls st H Q = W ws dn k y bytes ret (pc + 3) ls (.ref H.length :: st) (H ++ [(.object C, (olay ws C).map dflt)]) Q :=
  W_step (act_h hd rfl (by simp only [hstep, chk, if_true]; exact hr))
theorem w_newA {aty : ArrayType} {n : Int32} {ty : FieldType} (hd : decode bytes pc = .ok (.newarray aty, 2)) (ht : newarray.typeOf aty = ty) (hr : hasArr ws ty = true) (hn : ¬ n < 0) (hb : n.toNatClampNeg * 8 ≤ 536870912) :
    W ws dn k y bytes ret pc ls (.int n :: st) H Q = W ws dn k y bytes ret (pc + 2) ls (.ref H.length :: st) (H ++ [(.array ty, List.replicate n.toNatClampNeg (defaultValue ty))]) Q := by
  subst ht
  exact W_step (act_h hd rfl (by simp only [hstep, chk, hNewA, hr, hn, hb, if_true, not_false_eq_true, and_self]))
/-- may the instruction read an array of that kind? -/
def ldOk : Instr → FieldType → Bool
  | .iaload, .int | .caload, .char | .laload, .long | .baload, .byte | .baload, .boolean => true
  | _, _ => false
def stOk : Instr → FieldType → Bool
  | .iastore, .int | .castore, .char | .lastore, .long | .bastore, .byte | .bastore, .boolean => true
  | _, _ => false
theorem w_ald {ins : Instr} {a : Nat} {j : Int32} {ty : FieldType} {vs : List Value} {v : Value} (hd : decode bytes pc = .ok (ins, 1)) (hi : ldOk ins ty = true) (ho : H[a]? = some (.array ty, vs)) (hj : ¬ j < 0) (hv : vs[j.toNatClampNeg]? = some v) :
    W ws dn k y bytes ret pc ls (.int j :: .ref a :: st) H Q = W ws dn k y bytes ret (pc + 1) ls (v :: st) H Q := by
  unfold ldOk at hi
  split at hi
  all_goals first
    | exact W_step (act_h hd rfl (by simp only [hstep, chk, hLd, okT, okB, ho, hv, hj, if_true, Option.map_some, decide_true, not_false_eq_true, and_self, Bool.or_true, Bool.true_or]))
    | cases hi
theorem w_ast {ins : Instr} {a : Nat} {j : Int32} {ty : FieldType} {vs : List Value} {v v' : Value} {H' : AHeap} (hd : decode bytes pc = .ok (ins, 1)) (hi : stOk ins ty = true) (ho : H[a]? = some (.array ty, vs)) (hk : k ≤ a) (hj : ¬ j < 0) (hl : j.toNatClampNeg < vs.length) (hv : putv ty v = some v') (hH : H.set a (.array ty, vs.set j.toNatClampNeg v') = H') :
    W ws dn k y bytes ret pc ls (v :: .int j :: .ref a :: st) H Q = W ws dn k y bytes ret (pc + 1) ls st H' Q := by
  unfold stOk at hi
  split at hi
  all_goals first
    | exact W_step (act_h hd rfl (by simp only [hstep, chk, hSt, okT, okB, ho, hv, hj, hk, hl, hH, if_true, Option.map_some, decide_true, not_false_eq_true, and_self, Bool.or_true, Bool.true_or]))
    | cases hi
theorem w_len {a : Nat} {ty : FieldType} {vs : List Value} (hd : decode bytes pc = .ok (.arraylength, 1)) (ho : H[a]? = some (.array ty, vs)) :
    W ws dn k y bytes ret pc ls (.ref a :: st) H Q = W ws dn k y bytes ret (pc + 1) ls (.int vs.length.toInt32 :: st) H Q :=
  W_step (act_h hd rfl (by simp only [hstep, chk, hLen, ho, if_true]))
theorem w_ldc {i : Nat} {v : Int32} (hd : decode bytes pc = .ok (.ldc i, 2)) (hr : rCon ws y.cls i = some v) : W ws dn k y bytes ret pc ls st H Q = W ws dn k y bytes ret (pc + 2) ls (.int v :: st) H Q :=
  W_step (act_h hd rfl (by simp only [hstep, chk, hr, if_true, Option.map_some]))
theorem w_ldcw {i : Nat} {v : Int32} (hd : decode bytes pc = .ok (.ldc_w i, 3)) (hr : rCon ws y.cls i = some v) : W ws dn k y bytes ret pc ls st H Q = W ws dn k y bytes ret (pc + 3) ls (.int v :: st) H Q :=
  W_step (act_h hd rfl (by simp only [hstep, chk, hr, if_true, Option.map_some]))
theorem w_ldc2 {i : Nat} {v : Int64} (hd : decode bytes pc = .ok (.ldc2_w i, 3)) (hr : rConL ws y.cls i = some v) : W ws dn k y bytes ret pc ls st H Q = W ws dn k y bytes ret (pc + 3) ls (.long v :: st) H Q :=
  W_step (act_h hd rfl (by simp only [hstep, chk, hr, if_true, Option.map_some]))
theorem w_iret {z : Int32} (hd : decode bytes pc = .ok (.ireturn, 1)) (hr : ret = some .int) : W ws dn k y bytes ret pc ls (.int z :: st) H Q = Q (some (.int z)) H := by
  subst hr; exact W_ret (by rw [act_c hd rfl rfl]; rfl)
theorem w_iretN {z : Int32} {t : FieldType} (hd : decode bytes pc = .ok (.ireturn, 1)) (hr : ret = some t) (ht : t = .int ∨ t = .boolean ∨ t = .byte ∨ t = .char ∨ t = .short) : W ws dn k y bytes ret pc ls (.int z :: st) H Q = Q (some (.int (nar t z))) H := by
  subst hr; exact W_ret (by rw [act_c hd rfl rfl]; simp only [cstep, chk, if_true, ht])
theorem w_lret {z : Int64} (hd : decode bytes pc = .ok (.lreturn, 1)) (hr : ret = some .long) : W ws dn k y bytes ret pc ls [.long z] H Q = Q (some (.long z)) H := by
  subst hr; exact W_ret (by rw [act_c hd rfl rfl]; rfl)
theorem w_vret (hd : decode bytes pc = .ok (.return_, 1)) (hr : ret = none) : W ws dn k y bytes ret pc ls [] H Q = Q none H := by
  subst hr; exact W_ret (by rw [act_c hd rfl rfl]; rfl)
theorem w_obj {i sl : Nat} {a : Nat} (hd : decode bytes pc = .ok (.invokespecial i, 3)) (hr : oR ws dn y i = some sl) (hw : wsum st ≤ sl) : W ws dn k y bytes ret pc ls (.ref a :: st) H Q = W ws dn k y bytes ret (pc + 3) ls st H Q :=
  W_step (by rw [act_c hd rfl rfl]; simp only [cstep, chk, if_true, hr, hw])
theorem w_stat {i mx na sl : Nat} {y' : MethodName} {b : ByteArray} {r : Option FieldType} {as rest : List Value} {en : List Slot} (hd : decode bytes pc = .ok (.invokestatic i, 3)) (hr : sR ws dn y i = some (y', b, mx, r, na, sl)) (hn : as.length = na) (hw : wsum rest ≤ sl) (he : (ent as.reverse).length ≤ mx) (hen : entry as.reverse mx = en) :
    W ws dn k y bytes ret pc ls (as ++ rest) H Q = W ws dn k y' b r 0 en [] H (fun v H1 => W ws dn k y bytes ret (pc + 3) ls (v.toList ++ rest) H1 Q) := by
  subst hn hen
  have e1 : (as ++ rest).take as.length = as := by simp
  have e2 : (as ++ rest).drop as.length = rest := by simp
  exact W_call (by rw [act_c hd rfl rfl]; simp only [cstep, chk, if_true, hr, e1, e2, hw, he, List.length_append, Nat.le_add_right, and_self])
theorem w_spec {i mx na sl a : Nat} {y' : MethodName} {b : ByteArray} {r : Option FieldType} {as rest : List Value} {en : List Slot} (hd : decode bytes pc = .ok (.invokespecial i, 3)) (h0 : oR ws dn y i = none) (hr : nR ws dn y i = some (y', b, mx, r, na, sl)) (hn : as.length = na) (hw : wsum rest ≤ sl) (he : (ent (.ref a :: as.reverse)).length ≤ mx) (hen : entry (.ref a :: as.reverse) mx = en) :
    W ws dn k y bytes ret pc ls (as ++ .ref a :: rest) H Q = W ws dn k y' b r 0 en [] H (fun v H1 => W ws dn k y bytes ret (pc + 3) ls (v.toList ++ rest) H1 Q) := by
  subst hn hen
  have e1 : (as ++ .ref a :: rest).take as.length = as := by simp
  have e2 : (as ++ .ref a :: rest).drop as.length = .ref a :: rest := by simp
  exact W_call (by rw [act_c hd rfl rfl]; simp only [cstep, chk, if_true, h0, hr, e1, e2, hw, he, List.length_append, Nat.le_add_right, and_self])
theorem w_virt {i mx na sl a : Nat} {pv : Bool} {y' : MethodName} {b : ByteArray} {r : Option FieldType} {as rest : List Value} {en : List Slot} {C : String} {vs : List Value} (hd : decode bytes pc = .ok (.invokevirtual i, 3)) (hr : vR ws dn y i = some (pv, y', b, mx, r, na, sl)) (ho : H[a]? = some (.object C, vs)) (hC : C = y'.cls) (hn : as.length = na) (hw : wsum rest ≤ sl) (he : (ent (.ref a :: as.reverse)).length ≤ mx) (hen : entry (.ref a :: as.reverse) mx = en) :
    W ws dn k y bytes ret pc ls (as ++ .ref a :: rest) H Q = W ws dn k y' b r 0 en [] H (fun v H1 => W ws dn k y bytes ret (pc + 3) ls (v.toList ++ rest) H1 Q) := by
  subst hn hen hC
  have e1 : (as ++ .ref a :: rest).take as.length = as := by simp
  have e2 : (as ++ .ref a :: rest).drop as.length = .ref a :: rest := by simp
  exact W_call (by rw [act_c hd rfl rfl]; simp only [cstep, chk, if_true, hr, e1, e2, ho, hw, he, List.length_append, Nat.le_add_right, and_self, or_true])
end
theorem law_of {Z : State} {a0 : Array Value} {ws : Ws} {dn : Dn} {k sa n0 : Nat} (hw : ∀ d ∈ ws, d.before a0 Z = true) (l : Launch) {y : MethodName} {b : ByteArray} {mx f lc rc rs : Nat} {r : Option FieldType} (wsx : List Jvm.Cond) (hp : Jvm.plainName y.cls = true) {as : List Value} (he : (ent as).length ≤ mx) {H : AHeap}
    (hW : W ws dn k y b r 0 (entry as mx) [] H (fun v H1 => v = some (.int 1) ∧ H1.length - H.length ≤ rc ∧ tot ws H1 - tot ws H ≤ rs)) (hdn : ∀ f' l', dnOf dn y = some (f', l') → f' ≤ f ∧ l' ≤ lc) {h : Heap} (S : Sim Z ws k sa n0 H h) :
    MetFree l y (head1 (Jvm.Cond.code y b mx r :: wsx) ({ frames := f, cells := rc, slots := rs, locals := lc } : Room)) (fun a U => a = (as.map (ren (adr k sa n0))).toArray ∧ Z.Warmed39 U.vm ∧ U.heap = h) (fun _ _ _ _ _ => True)
      (fun _ U o U' => ∃ w L, o = .returned w ∧ (w = some (.int 1) ∧ Fr n0 L) ∧ FrameEnd U o U' L rc rs) := by
  obtain ⟨n, v, H1, h1, rfl, h3, h4⟩ := hW
  have M := met_of (snd hw n) l wsx hp he h1 hdn S h3 h4
  intro p e ha hc hk s m args below hf happ hP hK
  obtain ⟨n', o, g1, g2, g3, w, L, rfl, ⟨rfl, -, N⟩, F⟩ := M p e ha hc hk s m args below hf happ hP hK
  exact ⟨n', _, g1, g2, g3, _, L, rfl, ⟨rfl, N⟩, F.1, F.2.1, F.2.2.mono h3 h4⟩
/-- the start of a law whose arguments hold no reference -/
theorem Sim.empty (Z : State) (ws : Ws) (h : Heap) : Sim Z ws 0 0 h.size [] h :=
  ⟨by simp, Nat.le_refl _, Nat.zero_le _, (fun q => absurd q (by decide)), (fun i o q => by simp at q)⟩
/-- the start of a law over one array of ints -/
theorem Sim.script {Z : State} (ws : Ws) {h : Heap} {a : Addr} {c : Cell} {vs : List Int32} (A : Arr Z h a c .int) (e : c.slots = (vs.map Value.int).toArray) : Sim Z ws 1 a h.size [(.array .int, vs.map Value.int)] h := by
  refine ⟨by simp, Nat.le_refl _, Nat.le_refl _, fun _ => A.lt, fun i o q => ?_⟩
  cases i with
  | zero =>
    cases q
    refine ⟨c, A, e.trans ?_⟩
    rw [List.map_map]; rfl
  | succ i => cases q
end Jvm.Own
namespace Jvm.Own
open Sem ClassFile Op Lib Jvm.Stand Jvm.Free Jvm.LawKit Jvm.RoadKit
/-! OWN 7: states of an object as plain functions -/
def ou {α : Type} (s : Nat → α) (i : Nat) (v : α) : Nat → α := fun j => if j = i then v else s j
theorem ou_a {α : Type} (s : Nat → α) (i : Nat) (v : α) (j : Nat) : ou s i v j = if j = i then v else s j := rfl
def pad (b : Nat) (pre : AHeap) : AHeap := (pre ++ List.replicate b (FieldType.int, [])).take b
theorem pad_len (b : Nat) (pre : AHeap) : (pad b pre).length = b := by simp [pad]
theorem pad_eq {b : Nat} {pre : AHeap} (h : pre.length = b) : pad b pre = pre := by subst h; simp [pad]
theorem pad_0 (pre : AHeap) : pad 0 pre = [] := by simp [pad]
theorem tot_cons (ws : Ws) (o : FieldType × List Value) (r : AHeap) : tot ws (o :: r) = cost ws o + tot ws r := by simp [tot]
theorem tot_append (ws : Ws) (a r : AHeap) : tot ws (a ++ r) = tot ws a + tot ws r := by simp [tot]
theorem tot_nil (ws : Ws) : tot ws [] = 0 := rfl
theorem pad_get (b : Nat) (pre r : AHeap) (i : Nat) : (pad b pre ++ r)[b + i]? = r[i]? := by
  rw [List.getElem?_append_right (by rw [pad_len]; omega), pad_len]; congr 1; omega
theorem pad_get0 (b : Nat) (pre r : AHeap) : (pad b pre ++ r)[b]? = r[0]? := pad_get b pre r 0
theorem pad_set (b : Nat) (pre r : AHeap) (i : Nat) (o : FieldType × List Value) : (pad b pre ++ r).set (b + i) o = pad b pre ++ r.set i o := by
  rw [List.set_append_right _ _ (by rw [pad_len]; omega), pad_len]; congr 2; omega
theorem pad_set0 (b : Nat) (pre r : AHeap) (o : FieldType × List Value) : (pad b pre ++ r).set b o = pad b pre ++ r.set 0 o := pad_set b pre r 0 o
theorem rCode_of {ws : Ws} {y : MethodName} {b : ByteArray} {m i : Nat} {r : Option FieldType} (h : ws[i]? = some (.code y b m r)) (h2 : (ws.take i).all (fun d => match d with | .code z _ _ _ => !decide (z = y) | _ => true) = true) : rCode ws y = some (b, m, r) := by
  have e : ws = ws.take i ++ (.code y b m r :: ws.drop (i + 1)) := by
    obtain ⟨hi, hg⟩ := List.getElem?_eq_some_iff.mp h
    rw [← hg, ← List.drop_eq_getElem_cons hi, List.take_append_drop]
  unfold rCode
  rw [e, List.findSome?_append]
  have e1 : (ws.take i).findSome? (fun d => match d with | .code z b m r => if z = y then some (b, m, r) else none | _ => none) = none := by
    rw [List.findSome?_eq_none_iff]
    intro d hd
    have q := List.all_eq_true.mp h2 d hd
    split
    · rename_i z b' m' r'
      simp at q
      simp [q]
    · rfl
  rw [e1]
  simp
theorem cR_of {ws : Ws} {dn : Dn} {y y' : MethodName} {b : ByteArray} {mx i f' l' f l na sl : Nat} {r : Option FieldType} {sig : MethodDescriptor} (h1 : rMth ws y.cls i = some y') (h2 : rCode ws y' = some (b, mx, r)) (h3 : dnOf dn y' = some (f', l')) (h4 : dnOf dn y = some (f, l)) (h5 : parseMethodDescriptor y'.desc = some sig)
    (h6 : decide (hasInit ws y'.cls = true ∧ Jvm.plainName y'.cls = true ∧ y'.cls ≠ "java/lang/invoke/MethodHandle" ∧ y'.cls ≠ "java/lang/invoke/VarHandle" ∧ f' + 1 ≤ f ∧ mx + 11 + l' ≤ l) = true) (h7 : sig.parameters.length = na) (h8 : l - (mx + 11 + l') = sl) : cR ws dn y i = some (y', b, mx, r, na, sl) := by
  subst h7 h8
  unfold cR
  rw [h1]; dsimp only
  rw [h2, h3, h4, h5]; dsimp only
  rw [if_pos (of_decide_eq_true h6)]
theorem sR_of {ws : Ws} {dn : Dn} {y : MethodName} {i : Nat} {q : MethodName × ByteArray × Nat × Option FieldType × Nat × Nat} (h : cR ws dn y i = some q) (hs : hasStat ws q.1 = true) : sR ws dn y i = some q := by
  unfold sR; rw [h]; dsimp only; rw [if_pos hs]
theorem nR_of {ws : Ws} {dn : Dn} {y : MethodName} {i : Nat} {q : MethodName × ByteArray × Nat × Option FieldType × Nat × Nat} (h : cR ws dn y i = some q) (h1 : q.1.name = "<init>") (h2 : hasIM ws q.1 = true) (h3 : q.2.2.2.1 = none) : nR ws dn y i = some q := by
  unfold nR; rw [h]; dsimp only; rw [if_pos ⟨h1, h2, h3⟩]
theorem vR_of {ws : Ws} {dn : Dn} {y : MethodName} {i : Nat} {q : MethodName × ByteArray × Nat × Option FieldType × Nat × Nat} (h : cR ws dn y i = some q) (h1 : hasIM ws q.1 = true) (h2 : decide (hasPriv ws q.1 = true ∧ (rInst ws q.1.cls).isSome = true) = false) (h3 : decide (hasDecl ws q.1 = true ∧ hasSel ws q.1 = true) = true) : vR ws dn y i = some (false, q) := by
  unfold vR; rw [h]; dsimp only; rw [if_pos h1, if_neg (of_decide_eq_false h2), if_pos (of_decide_eq_true h3)]
theorem pR_of {ws : Ws} {dn : Dn} {y : MethodName} {i : Nat} {q : MethodName × ByteArray × Nat × Option FieldType × Nat × Nat} (h : cR ws dn y i = some q) (h1 : hasIM ws q.1 = true) (h2 : decide (hasPriv ws q.1 = true ∧ (rInst ws q.1.cls).isSome = true) = true) : vR ws dn y i = some (true, q) := by
  unfold vR; rw [h]; dsimp only; rw [if_pos h1, if_pos (of_decide_eq_true h2)]
def inB {α : Type} (j : Int32) (l : List α) : Prop := ¬ j < 0 ∧ j.toNatClampNeg < l.length
def getA (l : List Int32) (j : Int32) : Int32 := l.getD j.toNatClampNeg 0
def getL (l : List Int64) (j : Int32) : Int64 := l.getD j.toNatClampNeg 0
def setA {α : Type} (l : List α) (j : Int32) (v : α) : List α := l.set j.toNatClampNeg v
def c1 : Slot → Bool
  | .unset => true
  | .second => false
  | .val v => v.category == 1
theorem c1_u : c1 .unset = true := rfl
theorem c1_i (x : Int32) : c1 (.val (.int x)) = true := rfl
theorem c1_r (a : Nat) : c1 (.val (.ref a)) = true := rfl
theorem c1_n : c1 (.val .null) = true := rfl
theorem i_eq (x y : Int32) : if_icmp.holds .eq x y = decide (x = y) := by simp only [if_icmp.holds]; by_cases h : x = y <;> simp [h]
theorem i_ne (x y : Int32) : if_icmp.holds .ne x y = !decide (x = y) := by simp only [if_icmp.holds]; by_cases h : x = y <;> simp [h]
theorem i_lt (x y : Int32) : if_icmp.holds .lt x y = decide (x < y) := rfl
theorem i_gt (x y : Int32) : if_icmp.holds .gt x y = decide (y < x) := rfl
theorem i_ge (x y : Int32) : if_icmp.holds .ge x y = !decide (x < y) := by
  show decide (y ≤ x) = _
  have e1 : (y ≤ x) ↔ ¬ (x < y) := by rw [Int32.le_iff_toInt_le, Int32.lt_iff_toInt_lt]; omega
  by_cases h : x < y
  · have : ¬ y ≤ x := fun g => e1.mp g h
    simp [h, this]
  · have := e1.mpr h
    simp [h, this]
theorem i_le (x y : Int32) : if_icmp.holds .le x y = !decide (y < x) := i_ge y x
theorem z_eq (x : Int32) : ifCond.holds .eq x = decide (x = 0) := i_eq x 0
theorem z_ne (x : Int32) : ifCond.holds .ne x = !decide (x = 0) := i_ne x 0
theorem z_lt (x : Int32) : ifCond.holds .lt x = decide (x < 0) := rfl
theorem z_gt (x : Int32) : ifCond.holds .gt x = decide (0 < x) := rfl
theorem z_ge (x : Int32) : ifCond.holds .ge x = !decide (x < 0) := i_ge x 0
theorem z_le (x : Int32) : ifCond.holds .le x = !decide (0 < x) := i_le x 0
theorem nb0 : nar .boolean 0 = 0 := by decide
theorem nb1 : nar .boolean 1 = 1 := by decide
section
variable {ws : Ws} {dn : Dn} {k : Nat} {y : MethodName} {bytes : ByteArray} {ret : Option FieldType} {pc : Nat} {ls : List Slot} {st : List Value} {H : AHeap} {Q : Option Value → AHeap → Prop}
theorem W_stuck (h : act ws dn k y bytes ret pc ls st H = none) : W ws dn k y bytes ret pc ls st H Q = False := by
  refine propext ⟨fun ⟨n, v, H1, h1, h2⟩ => ?_, False.elim⟩
  cases n with
  | zero => cases h1
  | succ n => rw [run, h] at h1; cases h1
theorem stl_c1 {i : Nat} {o : Slot} {v : Value} (ho : ls[i]? = some o) (hc : c1 o = true) (hv : v.category = 1) : stl ls i v = some (ls.set i (.val v)) := by
  have h := XS.store1 (l := ls.toArray) (i := i) (v := v) (o := o) (by simpa using ho) (by
    cases o with
    | unset => exact Or.inl rfl
    | second => cases hc
    | val w => exact Or.inr ⟨w, rfl, by simpa [c1] using hc⟩) hv
  unfold stl
  rw [h]; simp
/-- a store of one word -/
theorem w_st {ins : Instr} {len i : Nat} {o : Slot} {v : Value} {p : Value → Bool} {nx : Nat} {ls' : List Slot} (hd : decode bytes pc = .ok (ins, len)) (hx : xstep ins len pc ls (v :: st) = stV p nx i ls (v :: st)) (hp : p v = true) (hv : v.category = 1) (ho : ls[i]? = some o) (hs : ls.set i (.val v) = ls') (hc : c1 o = true) :
    W ws dn k y bytes ret pc ls (v :: st) H Q = W ws dn k y bytes ret nx ls' st H Q := by
  subst hs
  exact w_x hd (by rw [hx]; simp only [stV, hp, if_true, stl_c1 ho hc hv, Option.map_some])
theorem w_iinc {i : Nat} {c : Int} {x z : Int32} {ls' : List Slot} (hd : decode bytes pc = .ok (.iinc i c, 3)) (ho : ls[i]? = some (.val (.int x))) (hz : Int32.ofInt c = z) (hs : ls.set i (.val (.int (x + z))) = ls') :
    W ws dn k y bytes ret pc ls st H Q = W ws dn k y bytes ret (pc + 3) ls' st H Q := by
  subst hs hz
  exact w_x hd (by simp only [xstep, chk, if_true, ho, stl_c1 (v := .int (x + Int32.ofInt c)) ho rfl rfl, Option.map_some])
theorem w_con {ins : Instr} {len nx : Nat} {v v' : Value} (hd : decode bytes pc = .ok (ins, len)) (hx : xstep ins len pc ls st = some (nx, ls, v :: st)) (hv : v = v') : W ws dn k y bytes ret pc ls st H Q = W ws dn k y bytes ret nx ls (v' :: st) H Q := by
  subst hv; exact w_x hd hx
theorem w_ifN {cd : ClassFile.Cond} {o : Int} {x : Int32} {t : Nat} {P : Prop} [Decidable P] (hd : decode bytes pc = .ok (.ifCond cd o, 3)) (hp : ifCond.holds cd x = !decide P) (hj : jmp pc o = some t) :
    W ws dn k y bytes ret pc ls (.int x :: st) H Q = if P then W ws dn k y bytes ret (pc + 3) ls st H Q else W ws dn k y bytes ret t ls st H Q := by
  split
  · exact w_x hd (by simp only [xstep, chk, br, hp, hj, if_true]; simp [*])
  · exact w_x hd (by simp only [xstep, chk, br, hp, hj, if_true]; simp [*])
theorem w_icmpN {cd : ClassFile.Cond} {o : Int} {x1 x2 : Int32} {t : Nat} {P : Prop} [Decidable P] (hd : decode bytes pc = .ok (.if_icmp cd o, 3)) (hp : if_icmp.holds cd x1 x2 = !decide P) (hj : jmp pc o = some t) :
    W ws dn k y bytes ret pc ls (.int x2 :: .int x1 :: st) H Q = if P then W ws dn k y bytes ret (pc + 3) ls st H Q else W ws dn k y bytes ret t ls st H Q := by
  split
  · exact w_x hd (by simp only [xstep, chk, br, hp, hj, if_true]; simp [*])
  · exact w_x hd (by simp only [xstep, chk, br, hp, hj, if_true]; simp [*])
theorem ld_stuck {ins : Instr} {a : Nat} {j : Int32} {ty : FieldType} {vs : List Value} (hd : decode bytes pc = .ok (ins, 1)) (hi : ldOk ins ty = true) (ho : H[a]? = some (.array ty, vs)) (hj : ¬ (¬ j < 0 ∧ j.toNatClampNeg < vs.length)) : act ws dn k y bytes ret pc ls (.int j :: .ref a :: st) H = none := by
  have hv : j < 0 ∨ vs[j.toNatClampNeg]? = none := by
    by_cases q : j < 0
    · exact Or.inl q
    · exact Or.inr (List.getElem?_eq_none (Nat.le_of_not_lt fun g => hj ⟨q, g⟩))
  unfold ldOk at hi
  split at hi
  all_goals first
    | (rw [act_c hd rfl (by rcases hv with q | q <;> simp [hstep, chk, hLd, okT, okB, ho, q])]; rfl)
    | cases hi
theorem st_stuck {ins : Instr} {a : Nat} {j : Int32} {ty : FieldType} {vs : List Value} {v : Value} (hd : decode bytes pc = .ok (ins, 1)) (hi : stOk ins ty = true) (ho : H[a]? = some (.array ty, vs)) (hj : ¬ (¬ j < 0 ∧ j.toNatClampNeg < vs.length)) : act ws dn k y bytes ret pc ls (v :: .int j :: .ref a :: st) H = none := by
  have hv : ¬ (¬ j < 0 ∧ j.toNatClampNeg < vs.length) := hj
  unfold stOk at hi
  split at hi
  all_goals first
    | (rw [act_c hd rfl (by simp only [hstep, chk, hSt, okT, okB, ho, if_true]; rw [if_neg (fun q => hv q.2.2)])]; rfl)
    | cases hi
theorem w_ild {ins : Instr} {a : Nat} {j : Int32} {ty : FieldType} {l : List Int32} (hd : decode bytes pc = .ok (ins, 1)) (hi : ldOk ins ty = true) (ho : H[a]? = some (.array ty, l.map Value.int)) :
    W ws dn k y bytes ret pc ls (.int j :: .ref a :: st) H Q = (inB j l ∧ W ws dn k y bytes ret (pc + 1) ls (.int (getA l j) :: st) H Q) := by
  by_cases h : inB j l
  · rw [w_ald hd hi ho h.1 (v := .int (getA l j)) (by simp [getA, h.2])]
    simp [h]
  · rw [W_stuck (ld_stuck hd hi ho (by simpa [inB] using h))]
    simp [h]
theorem w_lld {a : Nat} {j : Int32} {l : List Int64} (hd : decode bytes pc = .ok (.laload, 1)) (ho : H[a]? = some (.array .long, l.map Value.long)) :
    W ws dn k y bytes ret pc ls (.int j :: .ref a :: st) H Q = (inB j l ∧ W ws dn k y bytes ret (pc + 1) ls (.long (getL l j) :: st) H Q) := by
  by_cases h : inB j l
  · rw [w_ald hd rfl ho h.1 (v := .long (getL l j)) (by simp [getL, h.2])]
    simp [h]
  · rw [W_stuck (ld_stuck hd rfl ho (by simpa [inB] using h))]
    simp [h]
theorem w_ist {ins : Instr} {a : Nat} {j v v' : Int32} {ty : FieldType} {l : List Int32} {H' : AHeap} (hd : decode bytes pc = .ok (ins, 1)) (hi : stOk ins ty = true) (ho : H[a]? = some (.array ty, l.map Value.int)) (hk : k ≤ a) (hv : putv ty (.int v) = some (.int v')) (hH : H.set a (.array ty, (setA l j v').map Value.int) = H') :
    W ws dn k y bytes ret pc ls (.int v :: .int j :: .ref a :: st) H Q = (inB j l ∧ W ws dn k y bytes ret (pc + 1) ls st H' Q) := by
  by_cases h : inB j l
  · rw [w_ast (H' := H') hd hi ho hk h.1 (by simpa using h.2) hv (by rw [← hH, setA, List.map_set])]
    simp [h]
  · rw [W_stuck (st_stuck hd hi ho (by simpa [inB] using h))]
    simp [h]
theorem w_lst {a : Nat} {j : Int32} {v : Int64} {l : List Int64} {H' : AHeap} (hd : decode bytes pc = .ok (.lastore, 1)) (ho : H[a]? = some (.array .long, l.map Value.long)) (hk : k ≤ a) (hH : H.set a (.array .long, (setA l j v).map Value.long) = H') :
    W ws dn k y bytes ret pc ls (.long v :: .int j :: .ref a :: st) H Q = (inB j l ∧ W ws dn k y bytes ret (pc + 1) ls st H' Q) := by
  by_cases h : inB j l
  · rw [w_ast (H' := H') hd rfl ho hk h.1 (by simpa using h.2) rfl (by rw [← hH, setA, List.map_set])]
    simp [h]
  · rw [W_stuck (st_stuck hd rfl ho (by simpa [inB] using h))]
    simp [h]
theorem w_div {ins : Instr} {f : Int32 → Int32 → Int32} {x z : Int32} (hd : decode bytes pc = .ok (ins, 1)) (hx : ∀ st, xstep ins 1 pc ls st = d2 f (pc + 1) ls st) (hh : hstep ws k y ins 1 pc (.int z :: .int x :: st) H = none) (hc : cstep ws dn y ret ins 1 pc ls (.int z :: .int x :: st) H = none) :
    W ws dn k y bytes ret pc ls (.int z :: .int x :: st) H Q = (z ≠ 0 ∧ W ws dn k y bytes ret (pc + 1) ls (.int (f x z) :: st) H Q) := by
  by_cases h : z = 0
  · rw [W_stuck (by rw [act_c hd (by rw [hx]; simp [d2, h]) hh, hc])]; simp [h]
  · rw [w_x (pc' := pc + 1) (ls' := ls) (st' := .int (f x z) :: st) hd (by rw [hx]; simp only [d2, h, if_false])]; simp [h]
/-- a field's array made in a constructor -/
theorem w_iarr {i j p1 p2 p3 : Nat} {C : String} {vs : List Value} {r : AHeap} {n : Int32} {v : Value} {aty : ArrayType} {ty at' : FieldType} {l0 : Slot} {lr : List Slot} {ins : Instr} {len : Nat} {b : Nat} (hl : l0 = .val (.ref b)) (hH : H.length = b) (hk : k ≤ b)
    (d0 : decode bytes pc = .ok (.aload_n 0, 1)) (e0 : pc + 1 = p1) (dn1 : decode bytes p1 = .ok (ins, len)) (hx : ∀ st, xstep ins len p1 (l0 :: lr) st = some (p2, l0 :: lr, v :: st)) (hv : v = .int n) (d2' : decode bytes p2 = .ok (.newarray aty, 2)) (ht : newarray.typeOf aty = ty) (hr : hasArr ws ty = true) (hn : ¬ n < 0) (hb : n.toNatClampNeg * 8 ≤ 536870912) (e3 : p2 + 2 = p3)
    (d3 : decode bytes p3 = .ok (.putfield i, 3)) (hp : pfR ws y.cls y.name i = some (C, j, .array at')) (hj : j < vs.length) :
    W ws dn k y bytes ret pc (l0 :: lr) [] (H ++ (.object C, vs) :: r) Q = W ws dn k y bytes ret (p3 + 3) (l0 :: lr) [] (H ++ (.object C, vs.set j (.ref (b + (r.length + 1)))) :: (r ++ [(.array ty, List.replicate n.toNatClampNeg (defaultValue ty))])) Q := by
  subst hl e0 e3 hv hH
  rw [w_x d0 (ls' := .val (.ref H.length) :: lr) (st' := [.ref H.length]) (pc' := pc + 1) rfl, w_x dn1 (hx _), w_newA d2' ht hr hn hb]
  have e1 : (H ++ (FieldType.object C, vs) :: r).length = H.length + (r.length + 1) := by simp
  rw [e1, w_put d3 hp (vs := vs) (H' := H ++ (.object C, vs.set j (.ref (H.length + (r.length + 1)))) :: (r ++ [(.array ty, List.replicate n.toNatClampNeg (defaultValue ty))])) (by simp) hk hj rfl (by simp)]
/-- a field's plain value put at a constructor's head -/
theorem w_iint {i j p1 p2 : Nat} {C : String} {vs : List Value} {r : AHeap} {v v0 v' : Value} {ty : FieldType} {l0 : Slot} {lr : List Slot} {ins : Instr} {len : Nat} {b : Nat} (hl : l0 = .val (.ref b)) (hH : H.length = b) (hk : k ≤ b)
    (d0 : decode bytes pc = .ok (.aload_n 0, 1)) (e0 : pc + 1 = p1) (dn1 : decode bytes p1 = .ok (ins, len)) (hx : ∀ st, xstep ins len p1 (l0 :: lr) st = some (p2, l0 :: lr, v0 :: st)) (hv : v0 = v)
    (d3 : decode bytes p2 = .ok (.putfield i, 3)) (hp : pfR ws y.cls y.name i = some (C, j, ty)) (hv' : putv ty v = some v') (hj : j < vs.length) :
    W ws dn k y bytes ret pc (l0 :: lr) [] (H ++ (.object C, vs) :: r) Q = W ws dn k y bytes ret (p2 + 3) (l0 :: lr) [] (H ++ (.object C, vs.set j v') :: r) Q := by
  subst hl e0 hv hH
  rw [w_x d0 (ls' := .val (.ref H.length) :: lr) (st' := [.ref H.length]) (pc' := pc + 1) rfl, w_x dn1 (hx _)]
  rw [w_put d3 hp (vs := vs) (H' := H ++ (.object C, vs.set j v') :: r) (by simp) hk hj hv' (by simp)]
end
end Jvm.Own
namespace Jvm.Own
open Sem ClassFile Op Lib Jvm.Stand Jvm.Free Jvm.LawKit Jvm.RoadKit
theorem getA_rep (n : Nat) (j : Int32) : getA (List.replicate n 0) j = 0 := by
  simp only [getA, List.getD_eq_getElem?_getD, List.getElem?_replicate]
  split <;> rfl
/-- the array's words as plain ints -/
theorem script_of {s : State} {a : Addr} {c : Cell} (hf : Fit s) (A : Arr s s.heap a c .int) (hl : c.slots.size < 2 ^ 31) : ∃ vs : List Int32, c.slots = (vs.map Value.int).toArray := by
  have h : ∀ v ∈ c.slots.toList, ∃ x : Int32, v = .int x := fun v hv => by
    obtain ⟨i, hi, e⟩ := List.getElem_of_mem hv
    have hi' : i < c.slots.size := by simpa using hi
    have e1 : (Nat.toInt32 i).toNatClampNeg = i := by simp only [Int32.toNatClampNeg, len_toInt (Nat.lt_trans hi' hl)]; rfl
    obtain ⟨w, h1, h2⟩ := elem_fit hf A (idx_in hi' hl)
    rw [e1] at h1
    have : w = v := by rw [Array.getElem?_eq_getElem hi'] at h1; rw [← e]; simpa using (Option.some.inj h1).symm
    subst this
    exact fit_I h2 (by simp)
  have g : ∀ l : List Value, (∀ v ∈ l, ∃ x : Int32, v = .int x) → ∃ vs : List Int32, l = vs.map Value.int := fun l => by
    induction l with
    | nil => exact fun _ => ⟨[], rfl⟩
    | cons v r ih =>
      intro q
      obtain ⟨x, rfl⟩ := q _ (List.mem_cons_self ..)
      obtain ⟨vs, e⟩ := ih fun w hw => q w (List.mem_cons_of_mem _ hw)
      exact ⟨x :: vs, by rw [e]; rfl⟩
  obtain ⟨vs, e⟩ := g _ h
  exact ⟨vs, by rw [← e]⟩
end Jvm.Own
namespace Jvm.Own
open Sem ClassFile Op Lib Jvm.Stand Jvm.Free Jvm.LawKit Jvm.RoadKit
/-! OWN 8: small facts on arrays and ints -/
theorem toNat_eq (j : Int32) : j.toNatClampNeg = j.toInt.toNat := rfl
theorem lt_i {x y : Int32} : x < y ↔ x.toInt < y.toInt := Int32.lt_iff_toInt_lt
theorem inB_iff {α : Type} {j : Int32} {l : List α} : inB j l ↔ 0 ≤ j.toInt ∧ j.toInt < (l.length : Int) := by
  have e0 : (0 : Int32).toInt = 0 := rfl
  unfold inB
  rw [lt_i, toNat_eq, e0]
  omega
theorem inB_lt {α : Type} {j n : Int32} {l : List α} (hl : (l.length : Int) = n.toInt) (h0 : ¬ j < 0) (h1 : j < n) : inB j l := by
  have e0 : (0 : Int32).toInt = 0 := rfl
  rw [inB_iff]
  rw [lt_i] at h0 h1
  rw [e0] at h0
  omega
theorem setA_len {α : Type} (l : List α) (j : Int32) (v : α) : (setA l j v).length = l.length := List.length_set
theorem getA_set {l : List Int32} {i j v : Int32} (h : inB i l) : getA (setA l i v) j = if j.toNatClampNeg = i.toNatClampNeg then v else getA l j := by
  simp only [getA, setA, List.getD_eq_getElem?_getD, List.getElem?_set]
  by_cases e : j.toNatClampNeg = i.toNatClampNeg
  · rw [e]; simp [h.2]
  · simp [e, Ne.symm e]
theorem getA_set2 (l : List Int32) (i j v : Int32) : getA (setA l i v) j = if j.toNatClampNeg = i.toNatClampNeg ∧ i.toNatClampNeg < l.length then v else getA l j := by
  simp only [getA, setA, List.getD_eq_getElem?_getD, List.getElem?_set]
  by_cases e : j.toNatClampNeg = i.toNatClampNeg
  · rw [e]
    by_cases q : i.toNatClampNeg < l.length <;> simp [q]
  · simp [e, Ne.symm e]
theorem len_ou {B A : Nat → List Int32} {j : Nat} {l : List Int32} (h : ∀ i, (A i).length = (B i).length) (hl : l.length = (B j).length) : ∀ i, (ou A j l i).length = (B i).length := fun i => by
  rw [ou_a]
  split
  · rename_i e; rw [e]; exact hl
  · exact h i
end Jvm.Own
namespace Jvm.Own
open Sem ClassFile Op Lib Jvm.Stand Jvm.Free Jvm.LawKit Jvm.RoadKit
/-! OWN 9: a normal form of states; masks and ranges -/
theorem ou_same {α : Type} (s : Nat → α) (i : Nat) (v w : α) : ou (ou s i v) i w = ou s i w := by
  funext j
  simp only [ou_a]
  by_cases h : j = i <;> simp [h]
theorem ou_comm {α : Type} {s : Nat → α} {i j : Nat} {v w : α} (h : j < i) : ou (ou s i v) j w = ou (ou s j w) (i + 0) v := by
  show ou (ou s i v) j w = ou (ou s j w) i v
  funext k
  simp only [ou_a]
  by_cases h1 : k = j
  · have h2 : ¬ k = i := by omega
    simp [h1]
    intro h3; omega
  · simp [h1]
theorem setA_same {α : Type} (l : List α) (i : Int32) (v w : α) : setA (setA l i v) i w = setA l i w := by
  simp only [setA, List.set_set]
theorem clamp_ne {i j : Int32} (h0 : ¬ j < 0) (h : j < i) : j.toNatClampNeg ≠ i.toNatClampNeg := by
  have e0 : (0 : Int32).toInt = 0 := rfl
  rw [lt_i] at *
  rw [toNat_eq, toNat_eq]
  omega
theorem setA_comm {α : Type} {l : List α} {i j : Int32} {v w : α} (h0 : ¬ j < 0) (h : j < i) : setA (setA l i v) j w = setA (setA l j w) (i + 0) v := by
  rw [Int32.add_zero]
  simp only [setA]
  exact List.set_comm _ _ (Ne.symm (clamp_ne h0 h))
theorem lt_irr (x : Int32) : (x < x) = False := by
  apply propext
  rw [lt_i]
  constructor
  · intro h; omega
  · exact False.elim
theorem bit1 (x : Int32) : x &&& 1 = 0 ∨ x &&& 1 = 1 := by
  have h : (x &&& 1).toBitVec.toNat = x.toBitVec.toNat % 2 := by
    rw [Int32.toBitVec_and, BitVec.toNat_and]
    exact Nat.and_one_is_mod _
  rcases Nat.mod_two_eq_zero_or_one x.toBitVec.toNat with e | e
  · exact Or.inl (Int32.toBitVec_inj.mp (BitVec.eq_of_toNat_eq (by rw [h, e]; rfl)))
  · exact Or.inr (Int32.toBitVec_inj.mp (BitVec.eq_of_toNat_eq (by rw [h, e]; rfl)))
theorem and_bd (x m : Int32) (hm : m.toBitVec.toNat < 2147483648) : 0 ≤ (x &&& m).toInt ∧ (x &&& m).toInt ≤ (m.toBitVec.toNat : Int) := by
  have h : (x &&& m).toBitVec.toNat ≤ m.toBitVec.toNat := by
    rw [Int32.toBitVec_and, BitVec.toNat_and]
    exact Nat.and_le_right
  have e : (x &&& m).toInt = ((x &&& m).toBitVec.toNat : Int) := BitVec.toInt_eq_toNat_of_lt (by omega)
  rw [e]
  omega
theorem rng {x : Int32} {n : Nat} (h0 : 0 ≤ x.toInt) (h1 : x.toInt < n) : ∃ k, k < n ∧ x = Int32.ofNat k := by
  have e : (x.toInt.toNat : Int) = x.toInt := Int.toNat_of_nonneg h0
  refine ⟨x.toInt.toNat, by omega, ?_⟩
  have e2 : Int32.ofNat x.toInt.toNat = Int32.ofInt (x.toInt.toNat : Int) := rfl
  rw [e2, e, Int32.ofInt_toInt]
theorem getL_rep (n : Nat) (j : Int32) : getL (List.replicate n 0) j = 0 := by
  simp only [getL, List.getD_eq_getElem?_getD, List.getElem?_replicate]
  split <;> rfl
theorem getL_set2 (l : List Int64) (i j : Int32) (v : Int64) : getL (setA l i v) j = if j.toNatClampNeg = i.toNatClampNeg ∧ i.toNatClampNeg < l.length then v else getL l j := by
  simp only [getL, setA, List.getD_eq_getElem?_getD, List.getElem?_set]
  by_cases e : j.toNatClampNeg = i.toNatClampNeg
  · rw [e]
    by_cases q : i.toNatClampNeg < l.length <;> simp [q]
  · simp [e, Ne.symm e]
theorem add_i {a b : Int32} (h : -2147483648 ≤ a.toInt + b.toInt) (h' : a.toInt + b.toInt < 2147483648) : (a + b).toInt = a.toInt + b.toInt := by
  rw [Int32.toInt_add]
  have e : ((2 ^ 32 : Nat) : Int) = 4294967296 := rfl
  exact Int.bmod_eq_of_le (by rw [e]; omega) (by rw [e]; omega)
theorem sub_i {a b : Int32} (h : -2147483648 ≤ a.toInt - b.toInt) (h' : a.toInt - b.toInt < 2147483648) : (a - b).toInt = a.toInt - b.toInt := by
  rw [Int32.toInt_sub]
  have e : ((2 ^ 32 : Nat) : Int) = 4294967296 := rfl
  exact Int.bmod_eq_of_le (by rw [e]; omega) (by rw [e]; omega)
theorem mul_i {a b : Int32} (h : -2147483648 ≤ a.toInt * b.toInt) (h' : a.toInt * b.toInt < 2147483648) : (a * b).toInt = a.toInt * b.toInt := by
  rw [Int32.toInt_mul]
  have e : ((2 ^ 32 : Nat) : Int) = 4294967296 := rfl
  exact Int.bmod_eq_of_le (by rw [e]; omega) (by rw [e]; omega)
theorem i_0 : (0 : Int32).toInt = 0 := rfl
theorem i_1 : (1 : Int32).toInt = 1 := rfl
theorem add1_i {a : Int32} (h : a.toInt < 2147483647) : (a + 1).toInt = a.toInt + 1 := by
  have := Int32.le_toInt a
  exact add_i (by rw [i_1]; omega) (by rw [i_1]; omega)
theorem nn_i {a : Int32} : ¬ a < 0 ↔ 0 ≤ a.toInt := by rw [lt_i, i_0]; omega
theorem succ_nn {a : Int32} (h0 : ¬ a < 0) (h : a.toInt < 2147483647) : ¬ a + 1 < 0 := by
  rw [nn_i] at *
  rw [add1_i h]
  omega
theorem inB_set {α : Type} {l : List α} {i j : Int32} {v : α} : inB j (setA l i v) = inB j l := by
  simp only [inB, setA_len]
theorem pad_1 (c : FieldType × List Value) : pad 1 [c] = [c] := rfl
def okS (l : Slot) : Prop := l = .unset ∨ ∃ z : Int32, l = .val (.int z)
theorem okS_u : okS .unset := Or.inl rfl
theorem okS_i (z : Int32) : okS (.val (.int z)) := Or.inr ⟨z, rfl⟩
end Jvm.Own
namespace Jvm.Pilot.@@N@@
open Jvm Jvm.ClassFile Sem Op Lib Jvm.Free Jvm.Stand Jvm.LawKit Jvm.RoadKit Bundle Jvm.Own Jvm.Pilot.@@N@@.Jvm.D
/-- frames and words that each method asks -/
def dn : Dn := [(⟨"ResponseTimeGate", "<init>", "(I)V"⟩, 1, 13), (⟨"ResponseTimeGate", "resetSim", "()V"⟩, 0, 0), (⟨"ResponseTimeGate", "beginTask", "(IIII)I"⟩, 1, 14), (⟨"ResponseTimeGate", "commitTask", "()I"⟩, 3, 55), (⟨"ResponseTimeGate", "taskCount", "()I"⟩, 0, 0), (⟨"ResponseTimeGate", "bound", "(I)I"⟩, 1, 13), (⟨"ResponseTimeGate", "admitted", "(I)Z"⟩, 0, 0), (⟨"ResponseTimeGate", "blocking", "(I)I"⟩, 1, 13), (⟨"ResponseTimeGate", "hyperperiod", "()I"⟩, 0, 0), (⟨"ResponseTimeGate", "failedTask", "()I"⟩, 0, 0), (⟨"ResponseTimeGate", "priorityTaken", "(I)Z"⟩, 0, 0), (⟨"ResponseTimeGate", "lcmWith", "(II)I"⟩, 1, 18), (⟨"ResponseTimeGate", "gcd", "(II)I"⟩, 0, 0), (⟨"ResponseTimeGate", "placeStaged", "(I)V"⟩, 0, 0), (⟨"ResponseTimeGate", "analyze", "(I)I"⟩, 2, 39), (⟨"ResponseTimeGate", "computeCeilings", "(I)V"⟩, 0, 0), (⟨"ResponseTimeGate", "blockingOf", "(II)I"⟩, 0, 0), (⟨"ResponseTimeGate", "responseOf", "(III)I"⟩, 1, 20), (⟨"ResponseTimeGate", "interference", "(III)I"⟩, 0, 0), (⟨"ResponseTimeGate", "adoptResults", "(I)V"⟩, 0, 0), (⟨"ResponseTimeGateL2", "law", "(IIIII)Z"⟩, 4, 70)]
/- scalars: 0=cap 1=count 2=hyper 3=failed 4=staged 5=stT 6=stD 7=stC 8=stP 9=now 10=missCount; arrays: 0=per@1 1=dl@2 2=wc@3 3=pr@4 4=secS@5 5=secL@6 6=bnd@7 7=blk@8 8=ceil@9 9=stS@10 10=stL@11 11=candCeil@12 12=candB@13 13=candR@14 14=pend@15 15=rel@16 16=prog@17 17=held@18 18=done@19 19=maxR@20; longs: []; long arrays: [] -/
def objv (b : Nat) (s : Nat → Int32) : List Value := [.ref (b + 1), .ref (b + 2), .ref (b + 3), .ref (b + 4), .ref (b + 5), .ref (b + 6), .ref (b + 7), .ref (b + 8), .ref (b + 9), .ref (b + 10), .ref (b + 11), .ref (b + 12), .ref (b + 13), .ref (b + 14), .ref (b + 15), .ref (b + 16), .ref (b + 17), .ref (b + 18), .ref (b + 19), .ref (b + 20), .int (s 0), .int (s 1), .int (s 4), .int (s 3), .int (s 2), .int (s 9), .int (s 10), .int (s 5), .int (s 6), .int (s 7), .int (s 8)]
def put (b : Nat) (pre : AHeap) (s : Nat → Int32) (A : Nat → List Int32) (post : AHeap) : AHeap := pad b pre ++ ((.object "ResponseTimeGate", objv b s) :: (.array .int, (A 0).map Value.int) :: (.array .int, (A 1).map Value.int) :: (.array .int, (A 2).map Value.int) :: (.array .int, (A 3).map Value.int) :: (.array .int, (A 4).map Value.int) :: (.array .int, (A 5).map Value.int) :: (.array .int, (A 6).map Value.int) :: (.array .int, (A 7).map Value.int) :: (.array .int, (A 8).map Value.int) :: (.array .int, (A 9).map Value.int) :: (.array .int, (A 10).map Value.int) :: (.array .int, (A 11).map Value.int) :: (.array .int, (A 12).map Value.int) :: (.array .int, (A 13).map Value.int) :: (.array .boolean, (A 14).map Value.int) :: (.array .int, (A 15).map Value.int) :: (.array .int, (A 16).map Value.int) :: (.array .int, (A 17).map Value.int) :: (.array .int, (A 18).map Value.int) :: (.array .int, (A 19).map Value.int) :: post)
theorem put_o {b : Nat} {pre : AHeap} {s : Nat → Int32} {A : Nat → List Int32} {post : AHeap} : (put b pre s A post)[b]? = some (.object "ResponseTimeGate", objv b s) := pad_get0 _ _ _
theorem put_a0 {b : Nat} {pre : AHeap} {s : Nat → Int32} {A : Nat → List Int32} {post : AHeap} : (put b pre s A post)[b + 1]? = some (.array .int, (A 0).map Value.int) := pad_get _ _ _ 1
theorem put_w0 {b : Nat} {pre : AHeap} {s : Nat → Int32} {A : Nat → List Int32} {post : AHeap} {l : List Int32} : (put b pre s A post).set (b + 1) (.array .int, l.map Value.int) = put b pre s (ou A 0 l) post := pad_set _ _ _ 1 _
theorem put_a1 {b : Nat} {pre : AHeap} {s : Nat → Int32} {A : Nat → List Int32} {post : AHeap} : (put b pre s A post)[b + 2]? = some (.array .int, (A 1).map Value.int) := pad_get _ _ _ 2
theorem put_w1 {b : Nat} {pre : AHeap} {s : Nat → Int32} {A : Nat → List Int32} {post : AHeap} {l : List Int32} : (put b pre s A post).set (b + 2) (.array .int, l.map Value.int) = put b pre s (ou A 1 l) post := pad_set _ _ _ 2 _
theorem put_a2 {b : Nat} {pre : AHeap} {s : Nat → Int32} {A : Nat → List Int32} {post : AHeap} : (put b pre s A post)[b + 3]? = some (.array .int, (A 2).map Value.int) := pad_get _ _ _ 3
theorem put_w2 {b : Nat} {pre : AHeap} {s : Nat → Int32} {A : Nat → List Int32} {post : AHeap} {l : List Int32} : (put b pre s A post).set (b + 3) (.array .int, l.map Value.int) = put b pre s (ou A 2 l) post := pad_set _ _ _ 3 _
theorem put_a3 {b : Nat} {pre : AHeap} {s : Nat → Int32} {A : Nat → List Int32} {post : AHeap} : (put b pre s A post)[b + 4]? = some (.array .int, (A 3).map Value.int) := pad_get _ _ _ 4
theorem put_w3 {b : Nat} {pre : AHeap} {s : Nat → Int32} {A : Nat → List Int32} {post : AHeap} {l : List Int32} : (put b pre s A post).set (b + 4) (.array .int, l.map Value.int) = put b pre s (ou A 3 l) post := pad_set _ _ _ 4 _
theorem put_a4 {b : Nat} {pre : AHeap} {s : Nat → Int32} {A : Nat → List Int32} {post : AHeap} : (put b pre s A post)[b + 5]? = some (.array .int, (A 4).map Value.int) := pad_get _ _ _ 5
theorem put_w4 {b : Nat} {pre : AHeap} {s : Nat → Int32} {A : Nat → List Int32} {post : AHeap} {l : List Int32} : (put b pre s A post).set (b + 5) (.array .int, l.map Value.int) = put b pre s (ou A 4 l) post := pad_set _ _ _ 5 _
theorem put_a5 {b : Nat} {pre : AHeap} {s : Nat → Int32} {A : Nat → List Int32} {post : AHeap} : (put b pre s A post)[b + 6]? = some (.array .int, (A 5).map Value.int) := pad_get _ _ _ 6
theorem put_w5 {b : Nat} {pre : AHeap} {s : Nat → Int32} {A : Nat → List Int32} {post : AHeap} {l : List Int32} : (put b pre s A post).set (b + 6) (.array .int, l.map Value.int) = put b pre s (ou A 5 l) post := pad_set _ _ _ 6 _
theorem put_a6 {b : Nat} {pre : AHeap} {s : Nat → Int32} {A : Nat → List Int32} {post : AHeap} : (put b pre s A post)[b + 7]? = some (.array .int, (A 6).map Value.int) := pad_get _ _ _ 7
theorem put_w6 {b : Nat} {pre : AHeap} {s : Nat → Int32} {A : Nat → List Int32} {post : AHeap} {l : List Int32} : (put b pre s A post).set (b + 7) (.array .int, l.map Value.int) = put b pre s (ou A 6 l) post := pad_set _ _ _ 7 _
theorem put_a7 {b : Nat} {pre : AHeap} {s : Nat → Int32} {A : Nat → List Int32} {post : AHeap} : (put b pre s A post)[b + 8]? = some (.array .int, (A 7).map Value.int) := pad_get _ _ _ 8
theorem put_w7 {b : Nat} {pre : AHeap} {s : Nat → Int32} {A : Nat → List Int32} {post : AHeap} {l : List Int32} : (put b pre s A post).set (b + 8) (.array .int, l.map Value.int) = put b pre s (ou A 7 l) post := pad_set _ _ _ 8 _
theorem put_a8 {b : Nat} {pre : AHeap} {s : Nat → Int32} {A : Nat → List Int32} {post : AHeap} : (put b pre s A post)[b + 9]? = some (.array .int, (A 8).map Value.int) := pad_get _ _ _ 9
theorem put_w8 {b : Nat} {pre : AHeap} {s : Nat → Int32} {A : Nat → List Int32} {post : AHeap} {l : List Int32} : (put b pre s A post).set (b + 9) (.array .int, l.map Value.int) = put b pre s (ou A 8 l) post := pad_set _ _ _ 9 _
theorem put_a9 {b : Nat} {pre : AHeap} {s : Nat → Int32} {A : Nat → List Int32} {post : AHeap} : (put b pre s A post)[b + 10]? = some (.array .int, (A 9).map Value.int) := pad_get _ _ _ 10
theorem put_w9 {b : Nat} {pre : AHeap} {s : Nat → Int32} {A : Nat → List Int32} {post : AHeap} {l : List Int32} : (put b pre s A post).set (b + 10) (.array .int, l.map Value.int) = put b pre s (ou A 9 l) post := pad_set _ _ _ 10 _
theorem put_a10 {b : Nat} {pre : AHeap} {s : Nat → Int32} {A : Nat → List Int32} {post : AHeap} : (put b pre s A post)[b + 11]? = some (.array .int, (A 10).map Value.int) := pad_get _ _ _ 11
theorem put_w10 {b : Nat} {pre : AHeap} {s : Nat → Int32} {A : Nat → List Int32} {post : AHeap} {l : List Int32} : (put b pre s A post).set (b + 11) (.array .int, l.map Value.int) = put b pre s (ou A 10 l) post := pad_set _ _ _ 11 _
theorem put_a11 {b : Nat} {pre : AHeap} {s : Nat → Int32} {A : Nat → List Int32} {post : AHeap} : (put b pre s A post)[b + 12]? = some (.array .int, (A 11).map Value.int) := pad_get _ _ _ 12
theorem put_w11 {b : Nat} {pre : AHeap} {s : Nat → Int32} {A : Nat → List Int32} {post : AHeap} {l : List Int32} : (put b pre s A post).set (b + 12) (.array .int, l.map Value.int) = put b pre s (ou A 11 l) post := pad_set _ _ _ 12 _
theorem put_a12 {b : Nat} {pre : AHeap} {s : Nat → Int32} {A : Nat → List Int32} {post : AHeap} : (put b pre s A post)[b + 13]? = some (.array .int, (A 12).map Value.int) := pad_get _ _ _ 13
theorem put_w12 {b : Nat} {pre : AHeap} {s : Nat → Int32} {A : Nat → List Int32} {post : AHeap} {l : List Int32} : (put b pre s A post).set (b + 13) (.array .int, l.map Value.int) = put b pre s (ou A 12 l) post := pad_set _ _ _ 13 _
theorem put_a13 {b : Nat} {pre : AHeap} {s : Nat → Int32} {A : Nat → List Int32} {post : AHeap} : (put b pre s A post)[b + 14]? = some (.array .int, (A 13).map Value.int) := pad_get _ _ _ 14
theorem put_w13 {b : Nat} {pre : AHeap} {s : Nat → Int32} {A : Nat → List Int32} {post : AHeap} {l : List Int32} : (put b pre s A post).set (b + 14) (.array .int, l.map Value.int) = put b pre s (ou A 13 l) post := pad_set _ _ _ 14 _
theorem put_a14 {b : Nat} {pre : AHeap} {s : Nat → Int32} {A : Nat → List Int32} {post : AHeap} : (put b pre s A post)[b + 15]? = some (.array .boolean, (A 14).map Value.int) := pad_get _ _ _ 15
theorem put_w14 {b : Nat} {pre : AHeap} {s : Nat → Int32} {A : Nat → List Int32} {post : AHeap} {l : List Int32} : (put b pre s A post).set (b + 15) (.array .boolean, l.map Value.int) = put b pre s (ou A 14 l) post := pad_set _ _ _ 15 _
theorem put_a15 {b : Nat} {pre : AHeap} {s : Nat → Int32} {A : Nat → List Int32} {post : AHeap} : (put b pre s A post)[b + 16]? = some (.array .int, (A 15).map Value.int) := pad_get _ _ _ 16
theorem put_w15 {b : Nat} {pre : AHeap} {s : Nat → Int32} {A : Nat → List Int32} {post : AHeap} {l : List Int32} : (put b pre s A post).set (b + 16) (.array .int, l.map Value.int) = put b pre s (ou A 15 l) post := pad_set _ _ _ 16 _
theorem put_a16 {b : Nat} {pre : AHeap} {s : Nat → Int32} {A : Nat → List Int32} {post : AHeap} : (put b pre s A post)[b + 17]? = some (.array .int, (A 16).map Value.int) := pad_get _ _ _ 17
theorem put_w16 {b : Nat} {pre : AHeap} {s : Nat → Int32} {A : Nat → List Int32} {post : AHeap} {l : List Int32} : (put b pre s A post).set (b + 17) (.array .int, l.map Value.int) = put b pre s (ou A 16 l) post := pad_set _ _ _ 17 _
theorem put_a17 {b : Nat} {pre : AHeap} {s : Nat → Int32} {A : Nat → List Int32} {post : AHeap} : (put b pre s A post)[b + 18]? = some (.array .int, (A 17).map Value.int) := pad_get _ _ _ 18
theorem put_w17 {b : Nat} {pre : AHeap} {s : Nat → Int32} {A : Nat → List Int32} {post : AHeap} {l : List Int32} : (put b pre s A post).set (b + 18) (.array .int, l.map Value.int) = put b pre s (ou A 17 l) post := pad_set _ _ _ 18 _
theorem put_a18 {b : Nat} {pre : AHeap} {s : Nat → Int32} {A : Nat → List Int32} {post : AHeap} : (put b pre s A post)[b + 19]? = some (.array .int, (A 18).map Value.int) := pad_get _ _ _ 19
theorem put_w18 {b : Nat} {pre : AHeap} {s : Nat → Int32} {A : Nat → List Int32} {post : AHeap} {l : List Int32} : (put b pre s A post).set (b + 19) (.array .int, l.map Value.int) = put b pre s (ou A 18 l) post := pad_set _ _ _ 19 _
theorem put_a19 {b : Nat} {pre : AHeap} {s : Nat → Int32} {A : Nat → List Int32} {post : AHeap} : (put b pre s A post)[b + 20]? = some (.array .int, (A 19).map Value.int) := pad_get _ _ _ 20
theorem put_w19 {b : Nat} {pre : AHeap} {s : Nat → Int32} {A : Nat → List Int32} {post : AHeap} {l : List Int32} : (put b pre s A post).set (b + 20) (.array .int, l.map Value.int) = put b pre s (ou A 19 l) post := pad_set _ _ _ 20 _
theorem put_s0 {b : Nat} {pre : AHeap} {s : Nat → Int32} {A : Nat → List Int32} {post : AHeap} {v : Int32} : (put b pre s A post).set b (.object "ResponseTimeGate", (objv b s).set 20 (.int v)) = put b pre (ou s 0 v) A post := pad_set0 _ _ _ _
theorem put_s1 {b : Nat} {pre : AHeap} {s : Nat → Int32} {A : Nat → List Int32} {post : AHeap} {v : Int32} : (put b pre s A post).set b (.object "ResponseTimeGate", (objv b s).set 21 (.int v)) = put b pre (ou s 1 v) A post := pad_set0 _ _ _ _
theorem put_s4 {b : Nat} {pre : AHeap} {s : Nat → Int32} {A : Nat → List Int32} {post : AHeap} {v : Int32} : (put b pre s A post).set b (.object "ResponseTimeGate", (objv b s).set 22 (.int v)) = put b pre (ou s 4 v) A post := pad_set0 _ _ _ _
theorem put_s3 {b : Nat} {pre : AHeap} {s : Nat → Int32} {A : Nat → List Int32} {post : AHeap} {v : Int32} : (put b pre s A post).set b (.object "ResponseTimeGate", (objv b s).set 23 (.int v)) = put b pre (ou s 3 v) A post := pad_set0 _ _ _ _
theorem put_s2 {b : Nat} {pre : AHeap} {s : Nat → Int32} {A : Nat → List Int32} {post : AHeap} {v : Int32} : (put b pre s A post).set b (.object "ResponseTimeGate", (objv b s).set 24 (.int v)) = put b pre (ou s 2 v) A post := pad_set0 _ _ _ _
theorem put_s9 {b : Nat} {pre : AHeap} {s : Nat → Int32} {A : Nat → List Int32} {post : AHeap} {v : Int32} : (put b pre s A post).set b (.object "ResponseTimeGate", (objv b s).set 25 (.int v)) = put b pre (ou s 9 v) A post := pad_set0 _ _ _ _
theorem put_s10 {b : Nat} {pre : AHeap} {s : Nat → Int32} {A : Nat → List Int32} {post : AHeap} {v : Int32} : (put b pre s A post).set b (.object "ResponseTimeGate", (objv b s).set 26 (.int v)) = put b pre (ou s 10 v) A post := pad_set0 _ _ _ _
theorem put_s5 {b : Nat} {pre : AHeap} {s : Nat → Int32} {A : Nat → List Int32} {post : AHeap} {v : Int32} : (put b pre s A post).set b (.object "ResponseTimeGate", (objv b s).set 27 (.int v)) = put b pre (ou s 5 v) A post := pad_set0 _ _ _ _
theorem put_s6 {b : Nat} {pre : AHeap} {s : Nat → Int32} {A : Nat → List Int32} {post : AHeap} {v : Int32} : (put b pre s A post).set b (.object "ResponseTimeGate", (objv b s).set 28 (.int v)) = put b pre (ou s 6 v) A post := pad_set0 _ _ _ _
theorem put_s7 {b : Nat} {pre : AHeap} {s : Nat → Int32} {A : Nat → List Int32} {post : AHeap} {v : Int32} : (put b pre s A post).set b (.object "ResponseTimeGate", (objv b s).set 29 (.int v)) = put b pre (ou s 7 v) A post := pad_set0 _ _ _ _
theorem put_s8 {b : Nat} {pre : AHeap} {s : Nat → Int32} {A : Nat → List Int32} {post : AHeap} {v : Int32} : (put b pre s A post).set b (.object "ResponseTimeGate", (objv b s).set 30 (.int v)) = put b pre (ou s 8 v) A post := pad_set0 _ _ _ _
theorem put_len {b : Nat} {pre : AHeap} {s : Nat → Int32} {A : Nat → List Int32} {post : AHeap} : (put b pre s A post).length = b + 21 + post.length := by rw [put, List.length_append, pad_len]; simp only [List.length_cons]; omega
theorem inst0 : rInst tables_1 "ResponseTimeGate" = some 31 := by decide +kernel
theorem put_tot {b : Nat} {pre : AHeap} {s : Nat → Int32} {A : Nat → List Int32} {post : AHeap} : tot tables_1 (put b pre s A post) = tot tables_1 (pad b pre) + (31 + ((A 0).length + ((A 1).length + ((A 2).length + ((A 3).length + ((A 4).length + ((A 5).length + ((A 6).length + ((A 7).length + ((A 8).length + ((A 9).length + ((A 10).length + ((A 11).length + ((A 12).length + ((A 13).length + ((A 14).length + ((A 15).length + ((A 16).length + ((A 17).length + ((A 18).length + ((A 19).length + tot tables_1 post))))))))))))))))))))) := by rw [put, tot_append]; simp only [tot_cons, cost, List.length_map, inst0, Option.getD_some]
def D0 : List Value := [.null, .null, .null, .null, .null, .null, .null, .null, .null, .null, .null, .null, .null, .null, .null, .null, .null, .null, .null, .null, .int 0, .int 0, .int 0, .int 0, .int 0, .int 0, .int 0, .int 0, .int 0, .int 0, .int 0]
theorem lay0 : (olay tables_1 "ResponseTimeGate").map dflt = D0 := by decide +kernel
abbrev y0 : MethodName := ⟨"ResponseTimeGate", "<init>", "(I)V"⟩
abbrev kb0 : ByteArray := prog_1_method_1_code
def M0 (pc : Nat) (ls : List Slot) (st : List Value) (H : AHeap) (Q : Option Value → AHeap → Prop) : Prop := W tables_1 dn 0 y0 prog_1_method_1_code none pc ls st H Q
abbrev y1 : MethodName := ⟨"ResponseTimeGate", "resetSim", "()V"⟩
abbrev kb1 : ByteArray := prog_1_method_23_code
def M1 (pc : Nat) (ls : List Slot) (st : List Value) (H : AHeap) (Q : Option Value → AHeap → Prop) : Prop := W tables_1 dn 0 y1 prog_1_method_23_code none pc ls st H Q
abbrev y2 : MethodName := ⟨"ResponseTimeGate", "beginTask", "(IIII)I"⟩
abbrev kb2 : ByteArray := prog_1_method_2_code
def M2 (pc : Nat) (ls : List Slot) (st : List Value) (H : AHeap) (Q : Option Value → AHeap → Prop) : Prop := W tables_1 dn 0 y2 prog_1_method_2_code (some .int) pc ls st H Q
abbrev y3 : MethodName := ⟨"ResponseTimeGate", "commitTask", "()I"⟩
abbrev kb3 : ByteArray := prog_1_method_6_code
def M3 (pc : Nat) (ls : List Slot) (st : List Value) (H : AHeap) (Q : Option Value → AHeap → Prop) : Prop := W tables_1 dn 0 y3 prog_1_method_6_code (some .int) pc ls st H Q
abbrev y4 : MethodName := ⟨"ResponseTimeGate", "taskCount", "()I"⟩
abbrev kb4 : ByteArray := prog_1_method_17_code
def M4 (pc : Nat) (ls : List Slot) (st : List Value) (H : AHeap) (Q : Option Value → AHeap → Prop) : Prop := W tables_1 dn 0 y4 prog_1_method_17_code (some .int) pc ls st H Q
abbrev y5 : MethodName := ⟨"ResponseTimeGate", "bound", "(I)I"⟩
abbrev kb5 : ByteArray := prog_1_method_18_code
def M5 (pc : Nat) (ls : List Slot) (st : List Value) (H : AHeap) (Q : Option Value → AHeap → Prop) : Prop := W tables_1 dn 0 y5 prog_1_method_18_code (some .int) pc ls st H Q
abbrev y6 : MethodName := ⟨"ResponseTimeGate", "admitted", "(I)Z"⟩
abbrev kb6 : ByteArray := prog_1_method_16_code
def M6 (pc : Nat) (ls : List Slot) (st : List Value) (H : AHeap) (Q : Option Value → AHeap → Prop) : Prop := W tables_1 dn 0 y6 prog_1_method_16_code (some .boolean) pc ls st H Q
abbrev y7 : MethodName := ⟨"ResponseTimeGate", "blocking", "(I)I"⟩
abbrev kb7 : ByteArray := prog_1_method_19_code
def M7 (pc : Nat) (ls : List Slot) (st : List Value) (H : AHeap) (Q : Option Value → AHeap → Prop) : Prop := W tables_1 dn 0 y7 prog_1_method_19_code (some .int) pc ls st H Q
abbrev y8 : MethodName := ⟨"ResponseTimeGate", "hyperperiod", "()I"⟩
abbrev kb8 : ByteArray := prog_1_method_21_code
def M8 (pc : Nat) (ls : List Slot) (st : List Value) (H : AHeap) (Q : Option Value → AHeap → Prop) : Prop := W tables_1 dn 0 y8 prog_1_method_21_code (some .int) pc ls st H Q
abbrev y9 : MethodName := ⟨"ResponseTimeGate", "failedTask", "()I"⟩
abbrev kb9 : ByteArray := prog_1_method_22_code
def M9 (pc : Nat) (ls : List Slot) (st : List Value) (H : AHeap) (Q : Option Value → AHeap → Prop) : Prop := W tables_1 dn 0 y9 prog_1_method_22_code (some .int) pc ls st H Q
abbrev y10 : MethodName := ⟨"ResponseTimeGate", "priorityTaken", "(I)Z"⟩
abbrev kb10 : ByteArray := prog_1_method_3_code
def M10 (pc : Nat) (ls : List Slot) (st : List Value) (H : AHeap) (Q : Option Value → AHeap → Prop) : Prop := W tables_1 dn 0 y10 prog_1_method_3_code (some .boolean) pc ls st H Q
abbrev y11 : MethodName := ⟨"ResponseTimeGate", "lcmWith", "(II)I"⟩
abbrev kb11 : ByteArray := prog_1_method_10_code
def M11 (pc : Nat) (ls : List Slot) (st : List Value) (H : AHeap) (Q : Option Value → AHeap → Prop) : Prop := W tables_1 dn 0 y11 prog_1_method_10_code (some .int) pc ls st H Q
abbrev y12 : MethodName := ⟨"ResponseTimeGate", "gcd", "(II)I"⟩
abbrev kb12 : ByteArray := prog_1_method_9_code
def M12 (pc : Nat) (ls : List Slot) (st : List Value) (H : AHeap) (Q : Option Value → AHeap → Prop) : Prop := W tables_1 dn 0 y12 prog_1_method_9_code (some .int) pc ls st H Q
abbrev y13 : MethodName := ⟨"ResponseTimeGate", "placeStaged", "(I)V"⟩
abbrev kb13 : ByteArray := prog_1_method_7_code
def M13 (pc : Nat) (ls : List Slot) (st : List Value) (H : AHeap) (Q : Option Value → AHeap → Prop) : Prop := W tables_1 dn 0 y13 prog_1_method_7_code none pc ls st H Q
abbrev y14 : MethodName := ⟨"ResponseTimeGate", "analyze", "(I)I"⟩
abbrev kb14 : ByteArray := prog_1_method_11_code
def M14 (pc : Nat) (ls : List Slot) (st : List Value) (H : AHeap) (Q : Option Value → AHeap → Prop) : Prop := W tables_1 dn 0 y14 prog_1_method_11_code (some .int) pc ls st H Q
abbrev y15 : MethodName := ⟨"ResponseTimeGate", "computeCeilings", "(I)V"⟩
abbrev kb15 : ByteArray := prog_1_method_12_code
def M15 (pc : Nat) (ls : List Slot) (st : List Value) (H : AHeap) (Q : Option Value → AHeap → Prop) : Prop := W tables_1 dn 0 y15 prog_1_method_12_code none pc ls st H Q
abbrev y16 : MethodName := ⟨"ResponseTimeGate", "blockingOf", "(II)I"⟩
abbrev kb16 : ByteArray := prog_1_method_13_code
def M16 (pc : Nat) (ls : List Slot) (st : List Value) (H : AHeap) (Q : Option Value → AHeap → Prop) : Prop := W tables_1 dn 0 y16 prog_1_method_13_code (some .int) pc ls st H Q
abbrev y17 : MethodName := ⟨"ResponseTimeGate", "responseOf", "(III)I"⟩
abbrev kb17 : ByteArray := prog_1_method_14_code
def M17 (pc : Nat) (ls : List Slot) (st : List Value) (H : AHeap) (Q : Option Value → AHeap → Prop) : Prop := W tables_1 dn 0 y17 prog_1_method_14_code (some .int) pc ls st H Q
abbrev y18 : MethodName := ⟨"ResponseTimeGate", "interference", "(III)I"⟩
abbrev kb18 : ByteArray := prog_1_method_15_code
def M18 (pc : Nat) (ls : List Slot) (st : List Value) (H : AHeap) (Q : Option Value → AHeap → Prop) : Prop := W tables_1 dn 0 y18 prog_1_method_15_code (some .int) pc ls st H Q
abbrev y19 : MethodName := ⟨"ResponseTimeGate", "adoptResults", "(I)V"⟩
abbrev kb19 : ByteArray := prog_1_method_8_code
def M19 (pc : Nat) (ls : List Slot) (st : List Value) (H : AHeap) (Q : Option Value → AHeap → Prop) : Prop := W tables_1 dn 0 y19 prog_1_method_8_code none pc ls st H Q
abbrev y20 : MethodName := ⟨"ResponseTimeGateL2", "law", "(IIIII)Z"⟩
abbrev kb20 : ByteArray := code
def M20 (pc : Nat) (ls : List Slot) (st : List Value) (H : AHeap) (Q : Option Value → AHeap → Prop) : Prop := W tables_1 dn 0 y20 code (some .boolean) pc ls st H Q
theorem dn_0 : dnOf dn y0 = some (1, 13) := by decide +kernel
theorem rc_0 : rCode tables_1 y0 = some (prog_1_method_1_code, 4, none) := rCode_of (i := 5) rfl (by decide +kernel)
theorem dn_1 : dnOf dn y1 = some (0, 0) := by decide +kernel
theorem rc_1 : rCode tables_1 y1 = some (prog_1_method_23_code, 2, none) := rCode_of (i := 64) rfl (by decide +kernel)
theorem dn_2 : dnOf dn y2 = some (1, 14) := by decide +kernel
theorem rc_2 : rCode tables_1 y2 = some (prog_1_method_2_code, 6, some .int) := rCode_of (i := 73) rfl (by decide +kernel)
theorem dn_3 : dnOf dn y3 = some (3, 55) := by decide +kernel
theorem rc_3 : rCode tables_1 y3 = some (prog_1_method_6_code, 4, some .int) := rCode_of (i := 78) rfl (by decide +kernel)
theorem dn_4 : dnOf dn y4 = some (0, 0) := by decide +kernel
theorem rc_4 : rCode tables_1 y4 = some (prog_1_method_17_code, 1, some .int) := rCode_of (i := 83) rfl (by decide +kernel)
theorem dn_5 : dnOf dn y5 = some (1, 13) := by decide +kernel
theorem rc_5 : rCode tables_1 y5 = some (prog_1_method_18_code, 2, some .int) := rCode_of (i := 88) rfl (by decide +kernel)
theorem dn_6 : dnOf dn y6 = some (0, 0) := by decide +kernel
theorem rc_6 : rCode tables_1 y6 = some (prog_1_method_16_code, 2, some .boolean) := rCode_of (i := 92) rfl (by decide +kernel)
theorem dn_7 : dnOf dn y7 = some (1, 13) := by decide +kernel
theorem rc_7 : rCode tables_1 y7 = some (prog_1_method_19_code, 2, some .int) := rCode_of (i := 97) rfl (by decide +kernel)
theorem dn_8 : dnOf dn y8 = some (0, 0) := by decide +kernel
theorem rc_8 : rCode tables_1 y8 = some (prog_1_method_21_code, 1, some .int) := rCode_of (i := 102) rfl (by decide +kernel)
theorem dn_9 : dnOf dn y9 = some (0, 0) := by decide +kernel
theorem rc_9 : rCode tables_1 y9 = some (prog_1_method_22_code, 1, some .int) := rCode_of (i := 107) rfl (by decide +kernel)
theorem dn_10 : dnOf dn y10 = some (0, 0) := by decide +kernel
theorem rc_10 : rCode tables_1 y10 = some (prog_1_method_3_code, 3, some .boolean) := rCode_of (i := 111) rfl (by decide +kernel)
theorem dn_11 : dnOf dn y11 = some (1, 18) := by decide +kernel
theorem rc_11 : rCode tables_1 y11 = some (prog_1_method_10_code, 4, some .int) := rCode_of (i := 123) rfl (by decide +kernel)
theorem dn_12 : dnOf dn y12 = some (0, 0) := by decide +kernel
theorem rc_12 : rCode tables_1 y12 = some (prog_1_method_9_code, 7, some .int) := rCode_of (i := 127) rfl (by decide +kernel)
theorem dn_13 : dnOf dn y13 = some (0, 0) := by decide +kernel
theorem rc_13 : rCode tables_1 y13 = some (prog_1_method_7_code, 3, none) := rCode_of (i := 131) rfl (by decide +kernel)
theorem dn_14 : dnOf dn y14 = some (2, 39) := by decide +kernel
theorem rc_14 : rCode tables_1 y14 = some (prog_1_method_11_code, 5, some .int) := rCode_of (i := 135) rfl (by decide +kernel)
theorem dn_15 : dnOf dn y15 = some (0, 0) := by decide +kernel
theorem rc_15 : rCode tables_1 y15 = some (prog_1_method_12_code, 5, none) := rCode_of (i := 139) rfl (by decide +kernel)
theorem dn_16 : dnOf dn y16 = some (0, 0) := by decide +kernel
theorem rc_16 : rCode tables_1 y16 = some (prog_1_method_13_code, 8, some .int) := rCode_of (i := 143) rfl (by decide +kernel)
theorem dn_17 : dnOf dn y17 = some (1, 20) := by decide +kernel
theorem rc_17 : rCode tables_1 y17 = some (prog_1_method_14_code, 8, some .int) := rCode_of (i := 147) rfl (by decide +kernel)
theorem dn_18 : dnOf dn y18 = some (0, 0) := by decide +kernel
theorem rc_18 : rCode tables_1 y18 = some (prog_1_method_15_code, 8, some .int) := rCode_of (i := 151) rfl (by decide +kernel)
theorem dn_19 : dnOf dn y19 = some (0, 0) := by decide +kernel
theorem rc_19 : rCode tables_1 y19 = some (prog_1_method_8_code, 3, none) := rCode_of (i := 155) rfl (by decide +kernel)
theorem dn_20 : dnOf dn y20 = some (4, 70) := by decide +kernel
theorem gf_7 : gfR tables_1 "ResponseTimeGate" 7 = some ("ResponseTimeGate", 0) := by decide +kernel
theorem gf_13 : gfR tables_1 "ResponseTimeGate" 13 = some ("ResponseTimeGate", 1) := by decide +kernel
theorem gf_16 : gfR tables_1 "ResponseTimeGate" 16 = some ("ResponseTimeGate", 2) := by decide +kernel
theorem gf_19 : gfR tables_1 "ResponseTimeGate" 19 = some ("ResponseTimeGate", 3) := by decide +kernel
theorem gf_22 : gfR tables_1 "ResponseTimeGate" 22 = some ("ResponseTimeGate", 4) := by decide +kernel
theorem gf_25 : gfR tables_1 "ResponseTimeGate" 25 = some ("ResponseTimeGate", 5) := by decide +kernel
theorem gf_28 : gfR tables_1 "ResponseTimeGate" 28 = some ("ResponseTimeGate", 6) := by decide +kernel
theorem gf_31 : gfR tables_1 "ResponseTimeGate" 31 = some ("ResponseTimeGate", 7) := by decide +kernel
theorem gf_34 : gfR tables_1 "ResponseTimeGate" 34 = some ("ResponseTimeGate", 8) := by decide +kernel
theorem gf_37 : gfR tables_1 "ResponseTimeGate" 37 = some ("ResponseTimeGate", 9) := by decide +kernel
theorem gf_40 : gfR tables_1 "ResponseTimeGate" 40 = some ("ResponseTimeGate", 10) := by decide +kernel
theorem gf_43 : gfR tables_1 "ResponseTimeGate" 43 = some ("ResponseTimeGate", 11) := by decide +kernel
theorem gf_46 : gfR tables_1 "ResponseTimeGate" 46 = some ("ResponseTimeGate", 12) := by decide +kernel
theorem gf_49 : gfR tables_1 "ResponseTimeGate" 49 = some ("ResponseTimeGate", 13) := by decide +kernel
theorem gf_52 : gfR tables_1 "ResponseTimeGate" 52 = some ("ResponseTimeGate", 14) := by decide +kernel
theorem gf_56 : gfR tables_1 "ResponseTimeGate" 56 = some ("ResponseTimeGate", 15) := by decide +kernel
theorem gf_59 : gfR tables_1 "ResponseTimeGate" 59 = some ("ResponseTimeGate", 16) := by decide +kernel
theorem gf_62 : gfR tables_1 "ResponseTimeGate" 62 = some ("ResponseTimeGate", 17) := by decide +kernel
theorem gf_65 : gfR tables_1 "ResponseTimeGate" 65 = some ("ResponseTimeGate", 18) := by decide +kernel
theorem gf_68 : gfR tables_1 "ResponseTimeGate" 68 = some ("ResponseTimeGate", 19) := by decide +kernel
theorem gf_71 : gfR tables_1 "ResponseTimeGate" 71 = some ("ResponseTimeGate", 20) := by decide +kernel
theorem gf_75 : gfR tables_1 "ResponseTimeGate" 75 = some ("ResponseTimeGate", 21) := by decide +kernel
theorem gf_78 : gfR tables_1 "ResponseTimeGate" 78 = some ("ResponseTimeGate", 22) := by decide +kernel
theorem gf_82 : gfR tables_1 "ResponseTimeGate" 82 = some ("ResponseTimeGate", 23) := by decide +kernel
theorem gf_85 : gfR tables_1 "ResponseTimeGate" 85 = some ("ResponseTimeGate", 24) := by decide +kernel
theorem gf_95 : gfR tables_1 "ResponseTimeGate" 95 = some ("ResponseTimeGate", 27) := by decide +kernel
theorem gf_98 : gfR tables_1 "ResponseTimeGate" 98 = some ("ResponseTimeGate", 28) := by decide +kernel
theorem gf_101 : gfR tables_1 "ResponseTimeGate" 101 = some ("ResponseTimeGate", 29) := by decide +kernel
theorem gf_104 : gfR tables_1 "ResponseTimeGate" 104 = some ("ResponseTimeGate", 30) := by decide +kernel
theorem gf_145 : gfR tables_1 "ResponseTimeGate" 145 = some ("ResponseTimeGate", 25) := by decide +kernel
theorem gf_148 : gfR tables_1 "ResponseTimeGate" 148 = some ("ResponseTimeGate", 26) := by decide +kernel
section Rules
variable {b r q : Nat} {pre : AHeap} {s : Nat → Int32} {A : Nat → List Int32} {post : AHeap} {ls : List Slot} {st : List Value} {H R : AHeap} {Q : Option Value → AHeap → Prop} {x y v z j : Int32} {J1 J2 : Int64} {sc : List Int32} {l0 l1 l2 l3 l4 l5 l6 l7 l8 l9 l10 l11 l12 : Slot}
theorem m0_0 : M0 0 [.val (.ref r), l1, l2, l3] st H Q = M0 1 [.val (.ref r), l1, l2, l3] (.ref r :: st) H Q := w_x (show decode kb0 0 = .ok (.aload_n 0, 1) from by decide +kernel) rfl
theorem m0_1 : M0 1 ls [.ref r] H Q = M0 4 ls [] H Q := w_obj (show decode kb0 1 = .ok (.invokespecial 1, 3) from by decide +kernel) (sl := 1) (by decide +kernel) (by decide)
theorem m0_4 : M0 4 [.val (.ref r), l1, l2, l3] st H Q = M0 5 [.val (.ref r), l1, l2, l3] (.ref r :: st) H Q := w_x (show decode kb0 4 = .ok (.aload_n 0, 1) from by decide +kernel) rfl
theorem m0_5 : M0 5 ls st H Q = M0 7 ls (.int 9 :: st) H Q := w_con (show decode kb0 5 = .ok (.bipush 9, 2) from by decide +kernel) rfl (by decide)
theorem m0_12 : M0 12 [.val (.ref r), l1, l2, l3] st H Q = M0 13 [.val (.ref r), l1, l2, l3] (.ref r :: st) H Q := w_x (show decode kb0 12 = .ok (.aload_n 0, 1) from by decide +kernel) rfl
theorem m0_13 : M0 13 ls st H Q = M0 15 ls (.int 9 :: st) H Q := w_con (show decode kb0 13 = .ok (.bipush 9, 2) from by decide +kernel) rfl (by decide)
theorem m0_20 : M0 20 [.val (.ref r), l1, l2, l3] st H Q = M0 21 [.val (.ref r), l1, l2, l3] (.ref r :: st) H Q := w_x (show decode kb0 20 = .ok (.aload_n 0, 1) from by decide +kernel) rfl
theorem m0_21 : M0 21 ls st H Q = M0 23 ls (.int 9 :: st) H Q := w_con (show decode kb0 21 = .ok (.bipush 9, 2) from by decide +kernel) rfl (by decide)
theorem m0_28 : M0 28 [.val (.ref r), l1, l2, l3] st H Q = M0 29 [.val (.ref r), l1, l2, l3] (.ref r :: st) H Q := w_x (show decode kb0 28 = .ok (.aload_n 0, 1) from by decide +kernel) rfl
theorem m0_29 : M0 29 ls st H Q = M0 31 ls (.int 9 :: st) H Q := w_con (show decode kb0 29 = .ok (.bipush 9, 2) from by decide +kernel) rfl (by decide)
theorem m0_36 : M0 36 [.val (.ref r), l1, l2, l3] st H Q = M0 37 [.val (.ref r), l1, l2, l3] (.ref r :: st) H Q := w_x (show decode kb0 36 = .ok (.aload_n 0, 1) from by decide +kernel) rfl
theorem m0_37 : M0 37 ls st H Q = M0 39 ls (.int 36 :: st) H Q := w_con (show decode kb0 37 = .ok (.bipush 36, 2) from by decide +kernel) rfl (by decide)
theorem m0_44 : M0 44 [.val (.ref r), l1, l2, l3] st H Q = M0 45 [.val (.ref r), l1, l2, l3] (.ref r :: st) H Q := w_x (show decode kb0 44 = .ok (.aload_n 0, 1) from by decide +kernel) rfl
theorem m0_45 : M0 45 ls st H Q = M0 47 ls (.int 36 :: st) H Q := w_con (show decode kb0 45 = .ok (.bipush 36, 2) from by decide +kernel) rfl (by decide)
theorem m0_52 : M0 52 [.val (.ref r), l1, l2, l3] st H Q = M0 53 [.val (.ref r), l1, l2, l3] (.ref r :: st) H Q := w_x (show decode kb0 52 = .ok (.aload_n 0, 1) from by decide +kernel) rfl
theorem m0_53 : M0 53 ls st H Q = M0 55 ls (.int 9 :: st) H Q := w_con (show decode kb0 53 = .ok (.bipush 9, 2) from by decide +kernel) rfl (by decide)
theorem m0_60 : M0 60 [.val (.ref r), l1, l2, l3] st H Q = M0 61 [.val (.ref r), l1, l2, l3] (.ref r :: st) H Q := w_x (show decode kb0 60 = .ok (.aload_n 0, 1) from by decide +kernel) rfl
theorem m0_61 : M0 61 ls st H Q = M0 63 ls (.int 9 :: st) H Q := w_con (show decode kb0 61 = .ok (.bipush 9, 2) from by decide +kernel) rfl (by decide)
theorem m0_68 : M0 68 [.val (.ref r), l1, l2, l3] st H Q = M0 69 [.val (.ref r), l1, l2, l3] (.ref r :: st) H Q := w_x (show decode kb0 68 = .ok (.aload_n 0, 1) from by decide +kernel) rfl
theorem m0_69 : M0 69 ls st H Q = M0 70 ls (.int 4 :: st) H Q := w_con (show decode kb0 69 = .ok (.iconst 4, 1) from by decide +kernel) rfl (by decide)
theorem m0_75 : M0 75 [.val (.ref r), l1, l2, l3] st H Q = M0 76 [.val (.ref r), l1, l2, l3] (.ref r :: st) H Q := w_x (show decode kb0 75 = .ok (.aload_n 0, 1) from by decide +kernel) rfl
theorem m0_76 : M0 76 ls st H Q = M0 77 ls (.int 4 :: st) H Q := w_con (show decode kb0 76 = .ok (.iconst 4, 1) from by decide +kernel) rfl (by decide)
theorem m0_82 : M0 82 [.val (.ref r), l1, l2, l3] st H Q = M0 83 [.val (.ref r), l1, l2, l3] (.ref r :: st) H Q := w_x (show decode kb0 82 = .ok (.aload_n 0, 1) from by decide +kernel) rfl
theorem m0_83 : M0 83 ls st H Q = M0 84 ls (.int 4 :: st) H Q := w_con (show decode kb0 83 = .ok (.iconst 4, 1) from by decide +kernel) rfl (by decide)
theorem m0_89 : M0 89 [.val (.ref r), l1, l2, l3] st H Q = M0 90 [.val (.ref r), l1, l2, l3] (.ref r :: st) H Q := w_x (show decode kb0 89 = .ok (.aload_n 0, 1) from by decide +kernel) rfl
theorem m0_90 : M0 90 ls st H Q = M0 91 ls (.int 4 :: st) H Q := w_con (show decode kb0 90 = .ok (.iconst 4, 1) from by decide +kernel) rfl (by decide)
theorem m0_96 : M0 96 [.val (.ref r), l1, l2, l3] st H Q = M0 97 [.val (.ref r), l1, l2, l3] (.ref r :: st) H Q := w_x (show decode kb0 96 = .ok (.aload_n 0, 1) from by decide +kernel) rfl
theorem m0_97 : M0 97 ls st H Q = M0 99 ls (.int 9 :: st) H Q := w_con (show decode kb0 97 = .ok (.bipush 9, 2) from by decide +kernel) rfl (by decide)
theorem m0_104 : M0 104 [.val (.ref r), l1, l2, l3] st H Q = M0 105 [.val (.ref r), l1, l2, l3] (.ref r :: st) H Q := w_x (show decode kb0 104 = .ok (.aload_n 0, 1) from by decide +kernel) rfl
theorem m0_105 : M0 105 ls st H Q = M0 107 ls (.int 9 :: st) H Q := w_con (show decode kb0 105 = .ok (.bipush 9, 2) from by decide +kernel) rfl (by decide)
theorem m0_112 : M0 112 [.val (.ref r), l1, l2, l3] st H Q = M0 113 [.val (.ref r), l1, l2, l3] (.ref r :: st) H Q := w_x (show decode kb0 112 = .ok (.aload_n 0, 1) from by decide +kernel) rfl
theorem m0_113 : M0 113 ls st H Q = M0 115 ls (.int 9 :: st) H Q := w_con (show decode kb0 113 = .ok (.bipush 9, 2) from by decide +kernel) rfl (by decide)
theorem m0_120 : M0 120 [.val (.ref r), l1, l2, l3] st H Q = M0 121 [.val (.ref r), l1, l2, l3] (.ref r :: st) H Q := w_x (show decode kb0 120 = .ok (.aload_n 0, 1) from by decide +kernel) rfl
theorem m0_121 : M0 121 ls st H Q = M0 123 ls (.int 9 :: st) H Q := w_con (show decode kb0 121 = .ok (.bipush 9, 2) from by decide +kernel) rfl (by decide)
theorem m0_128 : M0 128 [.val (.ref r), l1, l2, l3] st H Q = M0 129 [.val (.ref r), l1, l2, l3] (.ref r :: st) H Q := w_x (show decode kb0 128 = .ok (.aload_n 0, 1) from by decide +kernel) rfl
theorem m0_129 : M0 129 ls st H Q = M0 131 ls (.int 9 :: st) H Q := w_con (show decode kb0 129 = .ok (.bipush 9, 2) from by decide +kernel) rfl (by decide)
theorem m0_136 : M0 136 [.val (.ref r), l1, l2, l3] st H Q = M0 137 [.val (.ref r), l1, l2, l3] (.ref r :: st) H Q := w_x (show decode kb0 136 = .ok (.aload_n 0, 1) from by decide +kernel) rfl
theorem m0_137 : M0 137 ls st H Q = M0 139 ls (.int 9 :: st) H Q := w_con (show decode kb0 137 = .ok (.bipush 9, 2) from by decide +kernel) rfl (by decide)
theorem m0_144 : M0 144 [.val (.ref r), l1, l2, l3] st H Q = M0 145 [.val (.ref r), l1, l2, l3] (.ref r :: st) H Q := w_x (show decode kb0 144 = .ok (.aload_n 0, 1) from by decide +kernel) rfl
theorem m0_145 : M0 145 ls st H Q = M0 147 ls (.int 9 :: st) H Q := w_con (show decode kb0 145 = .ok (.bipush 9, 2) from by decide +kernel) rfl (by decide)
theorem m0_152 : M0 152 [.val (.ref r), l1, l2, l3] st H Q = M0 153 [.val (.ref r), l1, l2, l3] (.ref r :: st) H Q := w_x (show decode kb0 152 = .ok (.aload_n 0, 1) from by decide +kernel) rfl
theorem m0_153 : M0 153 ls st H Q = M0 155 ls (.int 9 :: st) H Q := w_con (show decode kb0 153 = .ok (.bipush 9, 2) from by decide +kernel) rfl (by decide)
theorem m0_160 : M0 160 [l0, .val (.int v), l2, l3] st H Q = M0 161 [l0, .val (.int v), l2, l3] (.int v :: st) H Q := w_x (show decode kb0 160 = .ok (.iload_n 1, 1) from by decide +kernel) rfl
theorem m0_161u : M0 161 [l0, l1, .unset, l3] ((.int v) :: st) H Q = M0 162 [l0, l1, .val (.int v), l3] st H Q := w_st (i := 2) (p := isI) (show decode kb0 161 = .ok (.istore_n 2, 1) from by decide +kernel) rfl rfl rfl rfl rfl rfl
theorem m0_162 : M0 162 [l0, l1, .val (.int v), l3] st H Q = M0 163 [l0, l1, .val (.int v), l3] (.int v :: st) H Q := w_x (show decode kb0 162 = .ok (.iload_n 2, 1) from by decide +kernel) rfl
theorem m0_163 : M0 163 ls st H Q = M0 164 ls (.int 1 :: st) H Q := w_con (show decode kb0 163 = .ok (.iconst 1, 1) from by decide +kernel) rfl (by decide)
theorem m0_164 : M0 164 ls (.int y :: .int x :: st) H Q = if x < y then M0 167 ls st H Q else M0 169 ls st H Q := w_icmpN (show decode kb0 164 = .ok (.if_icmp .ge 5, 3) from by decide +kernel) (i_ge x y) rfl
theorem m0_167 : M0 167 ls st H Q = M0 168 ls (.int 1 :: st) H Q := w_con (show decode kb0 167 = .ok (.iconst 1, 1) from by decide +kernel) rfl (by decide)
theorem m0_168i : M0 168 [l0, l1, .val (.int z), l3] ((.int v) :: st) H Q = M0 169 [l0, l1, .val (.int v), l3] st H Q := w_st (i := 2) (p := isI) (show decode kb0 168 = .ok (.istore_n 2, 1) from by decide +kernel) rfl rfl rfl rfl rfl rfl
theorem m0_169 : M0 169 [l0, l1, .val (.int v), l3] st H Q = M0 170 [l0, l1, .val (.int v), l3] (.int v :: st) H Q := w_x (show decode kb0 169 = .ok (.iload_n 2, 1) from by decide +kernel) rfl
theorem m0_170 : M0 170 ls st H Q = M0 172 ls (.int 8 :: st) H Q := w_con (show decode kb0 170 = .ok (.bipush 8, 2) from by decide +kernel) rfl (by decide)
theorem m0_172 : M0 172 ls (.int y :: .int x :: st) H Q = if y < x then M0 175 ls st H Q else M0 178 ls st H Q := w_icmpN (show decode kb0 172 = .ok (.if_icmp .le 6, 3) from by decide +kernel) (i_le x y) rfl
theorem m0_175 : M0 175 ls st H Q = M0 177 ls (.int 8 :: st) H Q := w_con (show decode kb0 175 = .ok (.bipush 8, 2) from by decide +kernel) rfl (by decide)
theorem m0_177i : M0 177 [l0, l1, .val (.int z), l3] ((.int v) :: st) H Q = M0 178 [l0, l1, .val (.int v), l3] st H Q := w_st (i := 2) (p := isI) (show decode kb0 177 = .ok (.istore_n 2, 1) from by decide +kernel) rfl rfl rfl rfl rfl rfl
theorem m0_178 : M0 178 [.val (.ref r), l1, l2, l3] st H Q = M0 179 [.val (.ref r), l1, l2, l3] (.ref r :: st) H Q := w_x (show decode kb0 178 = .ok (.aload_n 0, 1) from by decide +kernel) rfl
theorem m0_179 : M0 179 [l0, l1, .val (.int v), l3] st H Q = M0 180 [l0, l1, .val (.int v), l3] (.int v :: st) H Q := w_x (show decode kb0 179 = .ok (.iload_n 2, 1) from by decide +kernel) rfl
theorem pf0_71 : pfR tables_1 y0.cls y0.name 71 = some ("ResponseTimeGate", 20, .int) := by decide +kernel
theorem m0_180 : M0 180 ls (.int v :: .ref b :: st) (put b pre s A post) Q = M0 183 ls st (put b pre (ou s 0 v) A post) Q := w_put (show decode kb0 180 = .ok (.putfield 71, 3) from by decide +kernel) pf0_71 put_o (Nat.zero_le _) (by show 20 < 31; omega) rfl put_s0
theorem m0_183 : M0 183 [.val (.ref r), l1, l2, l3] st H Q = M0 184 [.val (.ref r), l1, l2, l3] (.ref r :: st) H Q := w_x (show decode kb0 183 = .ok (.aload_n 0, 1) from by decide +kernel) rfl
theorem m0_184 : M0 184 ls st H Q = M0 185 ls (.int 0 :: st) H Q := w_con (show decode kb0 184 = .ok (.iconst 0, 1) from by decide +kernel) rfl (by decide)
theorem pf0_75 : pfR tables_1 y0.cls y0.name 75 = some ("ResponseTimeGate", 21, .int) := by decide +kernel
theorem m0_185 : M0 185 ls (.int v :: .ref b :: st) (put b pre s A post) Q = M0 188 ls st (put b pre (ou s 1 v) A post) Q := w_put (show decode kb0 185 = .ok (.putfield 75, 3) from by decide +kernel) pf0_75 put_o (Nat.zero_le _) (by show 21 < 31; omega) rfl put_s1
theorem m0_188 : M0 188 [.val (.ref r), l1, l2, l3] st H Q = M0 189 [.val (.ref r), l1, l2, l3] (.ref r :: st) H Q := w_x (show decode kb0 188 = .ok (.aload_n 0, 1) from by decide +kernel) rfl
theorem m0_189 : M0 189 ls st H Q = M0 190 ls (.int 0 :: st) H Q := w_con (show decode kb0 189 = .ok (.iconst 0, 1) from by decide +kernel) rfl (by decide)
theorem pf0_78 : pfR tables_1 y0.cls y0.name 78 = some ("ResponseTimeGate", 22, .boolean) := by decide +kernel
theorem m0_190 : M0 190 ls (.int v :: .ref b :: st) (put b pre s A post) Q = M0 193 ls st (put b pre (ou s 4 (nar .boolean v)) A post) Q := w_put (show decode kb0 190 = .ok (.putfield 78, 3) from by decide +kernel) pf0_78 put_o (Nat.zero_le _) (by show 22 < 31; omega) rfl put_s4
theorem m0_193 : M0 193 [.val (.ref r), l1, l2, l3] st H Q = M0 194 [.val (.ref r), l1, l2, l3] (.ref r :: st) H Q := w_x (show decode kb0 193 = .ok (.aload_n 0, 1) from by decide +kernel) rfl
theorem m0_194 : M0 194 ls st H Q = M0 195 ls (.int (-1) :: st) H Q := w_con (show decode kb0 194 = .ok (.iconst (-1), 1) from by decide +kernel) rfl (by decide)
theorem pf0_82 : pfR tables_1 y0.cls y0.name 82 = some ("ResponseTimeGate", 23, .int) := by decide +kernel
theorem m0_195 : M0 195 ls (.int v :: .ref b :: st) (put b pre s A post) Q = M0 198 ls st (put b pre (ou s 3 v) A post) Q := w_put (show decode kb0 195 = .ok (.putfield 82, 3) from by decide +kernel) pf0_82 put_o (Nat.zero_le _) (by show 23 < 31; omega) rfl put_s3
theorem m0_198 : M0 198 [.val (.ref r), l1, l2, l3] st H Q = M0 199 [.val (.ref r), l1, l2, l3] (.ref r :: st) H Q := w_x (show decode kb0 198 = .ok (.aload_n 0, 1) from by decide +kernel) rfl
theorem m0_199 : M0 199 ls st H Q = M0 200 ls (.int 1 :: st) H Q := w_con (show decode kb0 199 = .ok (.iconst 1, 1) from by decide +kernel) rfl (by decide)
theorem pf0_85 : pfR tables_1 y0.cls y0.name 85 = some ("ResponseTimeGate", 24, .int) := by decide +kernel
theorem m0_200 : M0 200 ls (.int v :: .ref b :: st) (put b pre s A post) Q = M0 203 ls st (put b pre (ou s 2 v) A post) Q := w_put (show decode kb0 200 = .ok (.putfield 85, 3) from by decide +kernel) pf0_85 put_o (Nat.zero_le _) (by show 24 < 31; omega) rfl put_s2
theorem m0_203 : M0 203 ls st H Q = M0 204 ls (.int 0 :: st) H Q := w_con (show decode kb0 203 = .ok (.iconst 0, 1) from by decide +kernel) rfl (by decide)
theorem m0_204u : M0 204 [l0, l1, l2, .unset] ((.int v) :: st) H Q = M0 205 [l0, l1, l2, .val (.int v)] st H Q := w_st (i := 3) (p := isI) (show decode kb0 204 = .ok (.istore_n 3, 1) from by decide +kernel) rfl rfl rfl rfl rfl rfl
theorem m0_205 : M0 205 [l0, l1, l2, .val (.int v)] st H Q = M0 206 [l0, l1, l2, .val (.int v)] (.int v :: st) H Q := w_x (show decode kb0 205 = .ok (.iload_n 3, 1) from by decide +kernel) rfl
theorem m0_206 : M0 206 ls st H Q = M0 207 ls (.int 4 :: st) H Q := w_con (show decode kb0 206 = .ok (.iconst 4, 1) from by decide +kernel) rfl (by decide)
theorem m0_207 : M0 207 ls (.int y :: .int x :: st) H Q = if x < y then M0 210 ls st H Q else M0 223 ls st H Q := w_icmpN (show decode kb0 207 = .ok (.if_icmp .ge 16, 3) from by decide +kernel) (i_ge x y) rfl
theorem m0_210 : M0 210 [.val (.ref r), l1, l2, l3] st H Q = M0 211 [.val (.ref r), l1, l2, l3] (.ref r :: st) H Q := w_x (show decode kb0 210 = .ok (.aload_n 0, 1) from by decide +kernel) rfl
theorem m0_211 : M0 211 ls (.ref b :: st) (put b pre s A post) Q = M0 214 ls (.ref (b + 9) :: st) (put b pre s A post) Q := w_get (show decode kb0 211 = .ok (.getfield 34, 3) from by decide +kernel) gf_34 put_o rfl
theorem m0_214 : M0 214 [l0, l1, l2, .val (.int v)] st H Q = M0 215 [l0, l1, l2, .val (.int v)] (.int v :: st) H Q := w_x (show decode kb0 214 = .ok (.iload_n 3, 1) from by decide +kernel) rfl
theorem m0_215 : M0 215 ls st H Q = M0 216 ls (.int 0 :: st) H Q := w_con (show decode kb0 215 = .ok (.iconst 0, 1) from by decide +kernel) rfl (by decide)
theorem m0_216  : M0 216 ls (.int v :: .int j :: .ref (b + 9) :: st) (put b pre s A post) Q = (inB j (A 8) ∧ M0 217 ls st (put b pre s (ou A 8 (setA (A 8) j v)) post) Q) := w_ist (show decode kb0 216 = .ok (.iastore, 1) from by decide +kernel) rfl put_a8 (Nat.zero_le _) rfl put_w8
theorem m0_217 : M0 217 [l0, l1, l2, .val (.int v)] st H Q = M0 220 [l0, l1, l2, .val (.int (v + 1))] st H Q := w_iinc (show decode kb0 217 = .ok (.iinc 3 1, 3) from by decide +kernel) rfl (by decide) rfl
theorem m0_220 : M0 220 ls st H Q = M0 205 ls st H Q := w_x (show decode kb0 220 = .ok (.goto (-15), 3) from by decide +kernel) rfl
theorem m0_223 : M0 223 [.val (.ref r), l1, l2, l3] st H Q = M0 224 [.val (.ref r), l1, l2, l3] (.ref r :: st) H Q := w_x (show decode kb0 223 = .ok (.aload_n 0, 1) from by decide +kernel) rfl
theorem cr0_88 : vR tables_1 dn y0 88 = some (true, y1, prog_1_method_23_code, 2, none, 0, 0) := pR_of (cR_of (by decide +kernel) rc_1 dn_1 dn_0 (sig := ⟨[], none⟩) (by decide +kernel) (by decide +kernel) rfl rfl) (by decide +kernel) (by decide +kernel)
theorem m0_224 : M0 224 ls [.ref b] (put b pre s A post) Q = M1 0 [.val (.ref b), .unset] [] (put b pre s A post) (fun v H1 => M0 227 ls (v.toList ++ []) H1 Q) := w_virt (as := []) (rest := []) (a := b) (show decode kb0 224 = .ok (.invokevirtual 88, 3) from by decide +kernel) cr0_88 put_o rfl rfl (Nat.le_of_ble_eq_true rfl) (by show 1 ≤ 2; omega) rfl
theorem m0_227 : M0 227 ls [] H Q = Q none H := w_vret (show decode kb0 227 = .ok (.return_, 1) from by decide +kernel) rfl
theorem m1_0 : M1 0 [.val (.ref r), l1] st H Q = M1 1 [.val (.ref r), l1] (.ref r :: st) H Q := w_x (show decode kb1 0 = .ok (.aload_n 0, 1) from by decide +kernel) rfl
theorem m1_1 : M1 1 ls st H Q = M1 2 ls (.int 0 :: st) H Q := w_con (show decode kb1 1 = .ok (.iconst 0, 1) from by decide +kernel) rfl (by decide)
theorem pf1_145 : pfR tables_1 y1.cls y1.name 145 = some ("ResponseTimeGate", 25, .int) := by decide +kernel
theorem m1_2 : M1 2 ls (.int v :: .ref b :: st) (put b pre s A post) Q = M1 5 ls st (put b pre (ou s 9 v) A post) Q := w_put (show decode kb1 2 = .ok (.putfield 145, 3) from by decide +kernel) pf1_145 put_o (Nat.zero_le _) (by show 25 < 31; omega) rfl put_s9
theorem m1_5 : M1 5 [.val (.ref r), l1] st H Q = M1 6 [.val (.ref r), l1] (.ref r :: st) H Q := w_x (show decode kb1 5 = .ok (.aload_n 0, 1) from by decide +kernel) rfl
theorem m1_6 : M1 6 ls st H Q = M1 7 ls (.int 0 :: st) H Q := w_con (show decode kb1 6 = .ok (.iconst 0, 1) from by decide +kernel) rfl (by decide)
theorem pf1_148 : pfR tables_1 y1.cls y1.name 148 = some ("ResponseTimeGate", 26, .int) := by decide +kernel
theorem m1_7 : M1 7 ls (.int v :: .ref b :: st) (put b pre s A post) Q = M1 10 ls st (put b pre (ou s 10 v) A post) Q := w_put (show decode kb1 7 = .ok (.putfield 148, 3) from by decide +kernel) pf1_148 put_o (Nat.zero_le _) (by show 26 < 31; omega) rfl put_s10
theorem m1_10 : M1 10 ls st H Q = M1 11 ls (.int 0 :: st) H Q := w_con (show decode kb1 10 = .ok (.iconst 0, 1) from by decide +kernel) rfl (by decide)
theorem m1_11u : M1 11 [l0, .unset] ((.int v) :: st) H Q = M1 12 [l0, .val (.int v)] st H Q := w_st (i := 1) (p := isI) (show decode kb1 11 = .ok (.istore_n 1, 1) from by decide +kernel) rfl rfl rfl rfl rfl rfl
theorem m1_12 : M1 12 [l0, .val (.int v)] st H Q = M1 13 [l0, .val (.int v)] (.int v :: st) H Q := w_x (show decode kb1 12 = .ok (.iload_n 1, 1) from by decide +kernel) rfl
theorem m1_13 : M1 13 ls st H Q = M1 15 ls (.int 9 :: st) H Q := w_con (show decode kb1 13 = .ok (.bipush 9, 2) from by decide +kernel) rfl (by decide)
theorem m1_15 : M1 15 ls (.int y :: .int x :: st) H Q = if x < y then M1 18 ls st H Q else M1 66 ls st H Q := w_icmpN (show decode kb1 15 = .ok (.if_icmp .ge 51, 3) from by decide +kernel) (i_ge x y) rfl
theorem m1_18 : M1 18 [.val (.ref r), l1] st H Q = M1 19 [.val (.ref r), l1] (.ref r :: st) H Q := w_x (show decode kb1 18 = .ok (.aload_n 0, 1) from by decide +kernel) rfl
theorem m1_19 : M1 19 ls (.ref b :: st) (put b pre s A post) Q = M1 22 ls (.ref (b + 15) :: st) (put b pre s A post) Q := w_get (show decode kb1 19 = .ok (.getfield 52, 3) from by decide +kernel) gf_52 put_o rfl
theorem m1_22 : M1 22 [l0, .val (.int v)] st H Q = M1 23 [l0, .val (.int v)] (.int v :: st) H Q := w_x (show decode kb1 22 = .ok (.iload_n 1, 1) from by decide +kernel) rfl
theorem m1_23 : M1 23 ls st H Q = M1 24 ls (.int 0 :: st) H Q := w_con (show decode kb1 23 = .ok (.iconst 0, 1) from by decide +kernel) rfl (by decide)
theorem m1_24  : M1 24 ls (.int v :: .int j :: .ref (b + 15) :: st) (put b pre s A post) Q = (inB j (A 14) ∧ M1 25 ls st (put b pre s (ou A 14 (setA (A 14) j (nar .boolean v))) post) Q) := w_ist (show decode kb1 24 = .ok (.bastore, 1) from by decide +kernel) rfl put_a14 (Nat.zero_le _) rfl put_w14
theorem m1_25 : M1 25 [.val (.ref r), l1] st H Q = M1 26 [.val (.ref r), l1] (.ref r :: st) H Q := w_x (show decode kb1 25 = .ok (.aload_n 0, 1) from by decide +kernel) rfl
theorem m1_26 : M1 26 ls (.ref b :: st) (put b pre s A post) Q = M1 29 ls (.ref (b + 16) :: st) (put b pre s A post) Q := w_get (show decode kb1 26 = .ok (.getfield 56, 3) from by decide +kernel) gf_56 put_o rfl
theorem m1_29 : M1 29 [l0, .val (.int v)] st H Q = M1 30 [l0, .val (.int v)] (.int v :: st) H Q := w_x (show decode kb1 29 = .ok (.iload_n 1, 1) from by decide +kernel) rfl
theorem m1_30 : M1 30 ls st H Q = M1 31 ls (.int 0 :: st) H Q := w_con (show decode kb1 30 = .ok (.iconst 0, 1) from by decide +kernel) rfl (by decide)
theorem m1_31  : M1 31 ls (.int v :: .int j :: .ref (b + 16) :: st) (put b pre s A post) Q = (inB j (A 15) ∧ M1 32 ls st (put b pre s (ou A 15 (setA (A 15) j v)) post) Q) := w_ist (show decode kb1 31 = .ok (.iastore, 1) from by decide +kernel) rfl put_a15 (Nat.zero_le _) rfl put_w15
theorem m1_32 : M1 32 [.val (.ref r), l1] st H Q = M1 33 [.val (.ref r), l1] (.ref r :: st) H Q := w_x (show decode kb1 32 = .ok (.aload_n 0, 1) from by decide +kernel) rfl
theorem m1_33 : M1 33 ls (.ref b :: st) (put b pre s A post) Q = M1 36 ls (.ref (b + 17) :: st) (put b pre s A post) Q := w_get (show decode kb1 33 = .ok (.getfield 59, 3) from by decide +kernel) gf_59 put_o rfl
theorem m1_36 : M1 36 [l0, .val (.int v)] st H Q = M1 37 [l0, .val (.int v)] (.int v :: st) H Q := w_x (show decode kb1 36 = .ok (.iload_n 1, 1) from by decide +kernel) rfl
theorem m1_37 : M1 37 ls st H Q = M1 38 ls (.int 0 :: st) H Q := w_con (show decode kb1 37 = .ok (.iconst 0, 1) from by decide +kernel) rfl (by decide)
theorem m1_38  : M1 38 ls (.int v :: .int j :: .ref (b + 17) :: st) (put b pre s A post) Q = (inB j (A 16) ∧ M1 39 ls st (put b pre s (ou A 16 (setA (A 16) j v)) post) Q) := w_ist (show decode kb1 38 = .ok (.iastore, 1) from by decide +kernel) rfl put_a16 (Nat.zero_le _) rfl put_w16
theorem m1_39 : M1 39 [.val (.ref r), l1] st H Q = M1 40 [.val (.ref r), l1] (.ref r :: st) H Q := w_x (show decode kb1 39 = .ok (.aload_n 0, 1) from by decide +kernel) rfl
theorem m1_40 : M1 40 ls (.ref b :: st) (put b pre s A post) Q = M1 43 ls (.ref (b + 18) :: st) (put b pre s A post) Q := w_get (show decode kb1 40 = .ok (.getfield 62, 3) from by decide +kernel) gf_62 put_o rfl
theorem m1_43 : M1 43 [l0, .val (.int v)] st H Q = M1 44 [l0, .val (.int v)] (.int v :: st) H Q := w_x (show decode kb1 43 = .ok (.iload_n 1, 1) from by decide +kernel) rfl
theorem m1_44 : M1 44 ls st H Q = M1 45 ls (.int (-1) :: st) H Q := w_con (show decode kb1 44 = .ok (.iconst (-1), 1) from by decide +kernel) rfl (by decide)
theorem m1_45  : M1 45 ls (.int v :: .int j :: .ref (b + 18) :: st) (put b pre s A post) Q = (inB j (A 17) ∧ M1 46 ls st (put b pre s (ou A 17 (setA (A 17) j v)) post) Q) := w_ist (show decode kb1 45 = .ok (.iastore, 1) from by decide +kernel) rfl put_a17 (Nat.zero_le _) rfl put_w17
theorem m1_46 : M1 46 [.val (.ref r), l1] st H Q = M1 47 [.val (.ref r), l1] (.ref r :: st) H Q := w_x (show decode kb1 46 = .ok (.aload_n 0, 1) from by decide +kernel) rfl
theorem m1_47 : M1 47 ls (.ref b :: st) (put b pre s A post) Q = M1 50 ls (.ref (b + 19) :: st) (put b pre s A post) Q := w_get (show decode kb1 47 = .ok (.getfield 65, 3) from by decide +kernel) gf_65 put_o rfl
theorem m1_50 : M1 50 [l0, .val (.int v)] st H Q = M1 51 [l0, .val (.int v)] (.int v :: st) H Q := w_x (show decode kb1 50 = .ok (.iload_n 1, 1) from by decide +kernel) rfl
theorem m1_51 : M1 51 ls st H Q = M1 52 ls (.int 0 :: st) H Q := w_con (show decode kb1 51 = .ok (.iconst 0, 1) from by decide +kernel) rfl (by decide)
theorem m1_52  : M1 52 ls (.int v :: .int j :: .ref (b + 19) :: st) (put b pre s A post) Q = (inB j (A 18) ∧ M1 53 ls st (put b pre s (ou A 18 (setA (A 18) j v)) post) Q) := w_ist (show decode kb1 52 = .ok (.iastore, 1) from by decide +kernel) rfl put_a18 (Nat.zero_le _) rfl put_w18
theorem m1_53 : M1 53 [.val (.ref r), l1] st H Q = M1 54 [.val (.ref r), l1] (.ref r :: st) H Q := w_x (show decode kb1 53 = .ok (.aload_n 0, 1) from by decide +kernel) rfl
theorem m1_54 : M1 54 ls (.ref b :: st) (put b pre s A post) Q = M1 57 ls (.ref (b + 20) :: st) (put b pre s A post) Q := w_get (show decode kb1 54 = .ok (.getfield 68, 3) from by decide +kernel) gf_68 put_o rfl
theorem m1_57 : M1 57 [l0, .val (.int v)] st H Q = M1 58 [l0, .val (.int v)] (.int v :: st) H Q := w_x (show decode kb1 57 = .ok (.iload_n 1, 1) from by decide +kernel) rfl
theorem m1_58 : M1 58 ls st H Q = M1 59 ls (.int 0 :: st) H Q := w_con (show decode kb1 58 = .ok (.iconst 0, 1) from by decide +kernel) rfl (by decide)
theorem m1_59  : M1 59 ls (.int v :: .int j :: .ref (b + 20) :: st) (put b pre s A post) Q = (inB j (A 19) ∧ M1 60 ls st (put b pre s (ou A 19 (setA (A 19) j v)) post) Q) := w_ist (show decode kb1 59 = .ok (.iastore, 1) from by decide +kernel) rfl put_a19 (Nat.zero_le _) rfl put_w19
theorem m1_60 : M1 60 [l0, .val (.int v)] st H Q = M1 63 [l0, .val (.int (v + 1))] st H Q := w_iinc (show decode kb1 60 = .ok (.iinc 1 1, 3) from by decide +kernel) rfl (by decide) rfl
theorem m1_63 : M1 63 ls st H Q = M1 12 ls st H Q := w_x (show decode kb1 63 = .ok (.goto (-51), 3) from by decide +kernel) rfl
theorem m1_66 : M1 66 ls [] H Q = Q none H := w_vret (show decode kb1 66 = .ok (.return_, 1) from by decide +kernel) rfl
theorem m2_0 : M2 0 [.val (.ref r), l1, l2, l3, l4, l5] st H Q = M2 1 [.val (.ref r), l1, l2, l3, l4, l5] (.ref r :: st) H Q := w_x (show decode kb2 0 = .ok (.aload_n 0, 1) from by decide +kernel) rfl
theorem m2_1 : M2 1 ls (.ref b :: st) (put b pre s A post) Q = M2 4 ls (.int (s 1) :: st) (put b pre s A post) Q := w_get (show decode kb2 1 = .ok (.getfield 75, 3) from by decide +kernel) gf_75 put_o rfl
theorem m2_4 : M2 4 [.val (.ref r), l1, l2, l3, l4, l5] st H Q = M2 5 [.val (.ref r), l1, l2, l3, l4, l5] (.ref r :: st) H Q := w_x (show decode kb2 4 = .ok (.aload_n 0, 1) from by decide +kernel) rfl
theorem m2_5 : M2 5 ls (.ref b :: st) (put b pre s A post) Q = M2 8 ls (.int (s 0) :: st) (put b pre s A post) Q := w_get (show decode kb2 5 = .ok (.getfield 71, 3) from by decide +kernel) gf_71 put_o rfl
theorem m2_8 : M2 8 ls (.int y :: .int x :: st) H Q = if x < y then M2 13 ls st H Q else M2 11 ls st H Q := w_icmp (show decode kb2 8 = .ok (.if_icmp .lt 5, 3) from by decide +kernel) (i_lt x y) rfl
theorem m2_11 : M2 11 ls st H Q = M2 12 ls (.int (-1) :: st) H Q := w_con (show decode kb2 11 = .ok (.iconst (-1), 1) from by decide +kernel) rfl (by decide)
theorem m2_12 : M2 12 ls (.int z :: st) H Q = Q (some (.int z)) H := w_iret (show decode kb2 12 = .ok (.ireturn, 1) from by decide +kernel) rfl
theorem m2_13 : M2 13 [l0, .val (.int v), l2, l3, l4, l5] st H Q = M2 14 [l0, .val (.int v), l2, l3, l4, l5] (.int v :: st) H Q := w_x (show decode kb2 13 = .ok (.iload_n 1, 1) from by decide +kernel) rfl
theorem m2_14 : M2 14 ls st H Q = M2 15 ls (.int 1 :: st) H Q := w_con (show decode kb2 14 = .ok (.iconst 1, 1) from by decide +kernel) rfl (by decide)
theorem m2_15 : M2 15 ls (.int y :: .int x :: st) H Q = if x < y then M2 25 ls st H Q else M2 18 ls st H Q := w_icmp (show decode kb2 15 = .ok (.if_icmp .lt 10, 3) from by decide +kernel) (i_lt x y) rfl
theorem m2_18 : M2 18 [l0, .val (.int v), l2, l3, l4, l5] st H Q = M2 19 [l0, .val (.int v), l2, l3, l4, l5] (.int v :: st) H Q := w_x (show decode kb2 18 = .ok (.iload_n 1, 1) from by decide +kernel) rfl
theorem m2_19 : M2 19 ls st H Q = M2 22 ls (.int 840 :: st) H Q := w_con (show decode kb2 19 = .ok (.sipush 840, 3) from by decide +kernel) rfl (by decide)
theorem m2_22 : M2 22 ls (.int y :: .int x :: st) H Q = if y < x then M2 25 ls st H Q else M2 28 ls st H Q := w_icmpN (show decode kb2 22 = .ok (.if_icmp .le 6, 3) from by decide +kernel) (i_le x y) rfl
theorem m2_25 : M2 25 ls st H Q = M2 27 ls (.int (-2) :: st) H Q := w_con (show decode kb2 25 = .ok (.bipush (-2), 2) from by decide +kernel) rfl (by decide)
theorem m2_27 : M2 27 ls (.int z :: st) H Q = Q (some (.int z)) H := w_iret (show decode kb2 27 = .ok (.ireturn, 1) from by decide +kernel) rfl
theorem m2_28 : M2 28 [l0, l1, .val (.int v), l3, l4, l5] st H Q = M2 29 [l0, l1, .val (.int v), l3, l4, l5] (.int v :: st) H Q := w_x (show decode kb2 28 = .ok (.iload_n 2, 1) from by decide +kernel) rfl
theorem m2_29 : M2 29 ls st H Q = M2 30 ls (.int 1 :: st) H Q := w_con (show decode kb2 29 = .ok (.iconst 1, 1) from by decide +kernel) rfl (by decide)
theorem m2_30 : M2 30 ls (.int y :: .int x :: st) H Q = if x < y then M2 38 ls st H Q else M2 33 ls st H Q := w_icmp (show decode kb2 30 = .ok (.if_icmp .lt 8, 3) from by decide +kernel) (i_lt x y) rfl
theorem m2_33 : M2 33 [l0, l1, .val (.int v), l3, l4, l5] st H Q = M2 34 [l0, l1, .val (.int v), l3, l4, l5] (.int v :: st) H Q := w_x (show decode kb2 33 = .ok (.iload_n 2, 1) from by decide +kernel) rfl
theorem m2_34 : M2 34 [l0, .val (.int v), l2, l3, l4, l5] st H Q = M2 35 [l0, .val (.int v), l2, l3, l4, l5] (.int v :: st) H Q := w_x (show decode kb2 34 = .ok (.iload_n 1, 1) from by decide +kernel) rfl
theorem m2_35 : M2 35 ls (.int y :: .int x :: st) H Q = if y < x then M2 38 ls st H Q else M2 41 ls st H Q := w_icmpN (show decode kb2 35 = .ok (.if_icmp .le 6, 3) from by decide +kernel) (i_le x y) rfl
theorem m2_38 : M2 38 ls st H Q = M2 40 ls (.int (-2) :: st) H Q := w_con (show decode kb2 38 = .ok (.bipush (-2), 2) from by decide +kernel) rfl (by decide)
theorem m2_40 : M2 40 ls (.int z :: st) H Q = Q (some (.int z)) H := w_iret (show decode kb2 40 = .ok (.ireturn, 1) from by decide +kernel) rfl
theorem m2_41 : M2 41 [l0, l1, l2, .val (.int v), l4, l5] st H Q = M2 42 [l0, l1, l2, .val (.int v), l4, l5] (.int v :: st) H Q := w_x (show decode kb2 41 = .ok (.iload_n 3, 1) from by decide +kernel) rfl
theorem m2_42 : M2 42 ls st H Q = M2 43 ls (.int 1 :: st) H Q := w_con (show decode kb2 42 = .ok (.iconst 1, 1) from by decide +kernel) rfl (by decide)
theorem m2_43 : M2 43 ls (.int y :: .int x :: st) H Q = if x < y then M2 51 ls st H Q else M2 46 ls st H Q := w_icmp (show decode kb2 43 = .ok (.if_icmp .lt 8, 3) from by decide +kernel) (i_lt x y) rfl
theorem m2_46 : M2 46 [l0, l1, l2, .val (.int v), l4, l5] st H Q = M2 47 [l0, l1, l2, .val (.int v), l4, l5] (.int v :: st) H Q := w_x (show decode kb2 46 = .ok (.iload_n 3, 1) from by decide +kernel) rfl
theorem m2_47 : M2 47 [l0, l1, .val (.int v), l3, l4, l5] st H Q = M2 48 [l0, l1, .val (.int v), l3, l4, l5] (.int v :: st) H Q := w_x (show decode kb2 47 = .ok (.iload_n 2, 1) from by decide +kernel) rfl
theorem m2_48 : M2 48 ls (.int y :: .int x :: st) H Q = if y < x then M2 51 ls st H Q else M2 54 ls st H Q := w_icmpN (show decode kb2 48 = .ok (.if_icmp .le 6, 3) from by decide +kernel) (i_le x y) rfl
theorem m2_51 : M2 51 ls st H Q = M2 53 ls (.int (-2) :: st) H Q := w_con (show decode kb2 51 = .ok (.bipush (-2), 2) from by decide +kernel) rfl (by decide)
theorem m2_53 : M2 53 ls (.int z :: st) H Q = Q (some (.int z)) H := w_iret (show decode kb2 53 = .ok (.ireturn, 1) from by decide +kernel) rfl
theorem m2_54 : M2 54 [l0, l1, l2, l3, .val (.int v), l5] st H Q = M2 56 [l0, l1, l2, l3, .val (.int v), l5] (.int v :: st) H Q := w_x (show decode kb2 54 = .ok (.iload 4, 2) from by decide +kernel) rfl
theorem m2_56 : M2 56 ls st H Q = M2 57 ls (.int 1 :: st) H Q := w_con (show decode kb2 56 = .ok (.iconst 1, 1) from by decide +kernel) rfl (by decide)
theorem m2_57 : M2 57 ls (.int y :: .int x :: st) H Q = if x < y then M2 67 ls st H Q else M2 60 ls st H Q := w_icmp (show decode kb2 57 = .ok (.if_icmp .lt 10, 3) from by decide +kernel) (i_lt x y) rfl
theorem m2_60 : M2 60 [l0, l1, l2, l3, .val (.int v), l5] st H Q = M2 62 [l0, l1, l2, l3, .val (.int v), l5] (.int v :: st) H Q := w_x (show decode kb2 60 = .ok (.iload 4, 2) from by decide +kernel) rfl
theorem m2_62 : M2 62 ls st H Q = M2 64 ls (.int 63 :: st) H Q := w_con (show decode kb2 62 = .ok (.bipush 63, 2) from by decide +kernel) rfl (by decide)
theorem m2_64 : M2 64 ls (.int y :: .int x :: st) H Q = if y < x then M2 67 ls st H Q else M2 70 ls st H Q := w_icmpN (show decode kb2 64 = .ok (.if_icmp .le 6, 3) from by decide +kernel) (i_le x y) rfl
theorem m2_67 : M2 67 ls st H Q = M2 69 ls (.int (-3) :: st) H Q := w_con (show decode kb2 67 = .ok (.bipush (-3), 2) from by decide +kernel) rfl (by decide)
theorem m2_69 : M2 69 ls (.int z :: st) H Q = Q (some (.int z)) H := w_iret (show decode kb2 69 = .ok (.ireturn, 1) from by decide +kernel) rfl
theorem m2_70 : M2 70 [.val (.ref r), l1, l2, l3, l4, l5] st H Q = M2 71 [.val (.ref r), l1, l2, l3, l4, l5] (.ref r :: st) H Q := w_x (show decode kb2 70 = .ok (.aload_n 0, 1) from by decide +kernel) rfl
theorem m2_71 : M2 71 [l0, l1, l2, l3, .val (.int v), l5] st H Q = M2 73 [l0, l1, l2, l3, .val (.int v), l5] (.int v :: st) H Q := w_x (show decode kb2 71 = .ok (.iload 4, 2) from by decide +kernel) rfl
theorem cr2_91 : vR tables_1 dn y2 91 = some (true, y10, prog_1_method_3_code, 3, (some .boolean), 1, 0) := pR_of (cR_of (by decide +kernel) rc_10 dn_10 dn_2 (sig := ⟨[.int], some .boolean⟩) (by decide +kernel) (by decide +kernel) rfl rfl) (by decide +kernel) (by decide +kernel)
theorem m2_73 (a0 : Int32) : M2 73 ls [.int a0, .ref b] (put b pre s A post) Q = M10 0 [.val (.ref b), .val (.int a0), .unset] [] (put b pre s A post) (fun v H1 => M2 76 ls (v.toList ++ []) H1 Q) := w_virt (as := [.int a0]) (rest := []) (a := b) (show decode kb2 73 = .ok (.invokevirtual 91, 3) from by decide +kernel) cr2_91 put_o rfl rfl (Nat.le_of_ble_eq_true rfl) (by show 2 ≤ 3; omega) rfl
theorem m2_76 : M2 76 ls (.int x :: st) H Q = if x = 0 then M2 82 ls st H Q else M2 79 ls st H Q := w_if (show decode kb2 76 = .ok (.ifCond .eq 6, 3) from by decide +kernel) (z_eq x) rfl
theorem m2_79 : M2 79 ls st H Q = M2 81 ls (.int (-3) :: st) H Q := w_con (show decode kb2 79 = .ok (.bipush (-3), 2) from by decide +kernel) rfl (by decide)
theorem m2_81 : M2 81 ls (.int z :: st) H Q = Q (some (.int z)) H := w_iret (show decode kb2 81 = .ok (.ireturn, 1) from by decide +kernel) rfl
theorem m2_82 : M2 82 [.val (.ref r), l1, l2, l3, l4, l5] st H Q = M2 83 [.val (.ref r), l1, l2, l3, l4, l5] (.ref r :: st) H Q := w_x (show decode kb2 82 = .ok (.aload_n 0, 1) from by decide +kernel) rfl
theorem m2_83 : M2 83 ls st H Q = M2 84 ls (.int 1 :: st) H Q := w_con (show decode kb2 83 = .ok (.iconst 1, 1) from by decide +kernel) rfl (by decide)
theorem pf2_78 : pfR tables_1 y2.cls y2.name 78 = some ("ResponseTimeGate", 22, .boolean) := by decide +kernel
theorem m2_84 : M2 84 ls (.int v :: .ref b :: st) (put b pre s A post) Q = M2 87 ls st (put b pre (ou s 4 (nar .boolean v)) A post) Q := w_put (show decode kb2 84 = .ok (.putfield 78, 3) from by decide +kernel) pf2_78 put_o (Nat.zero_le _) (by show 22 < 31; omega) rfl put_s4
theorem m2_87 : M2 87 [.val (.ref r), l1, l2, l3, l4, l5] st H Q = M2 88 [.val (.ref r), l1, l2, l3, l4, l5] (.ref r :: st) H Q := w_x (show decode kb2 87 = .ok (.aload_n 0, 1) from by decide +kernel) rfl
theorem m2_88 : M2 88 [l0, .val (.int v), l2, l3, l4, l5] st H Q = M2 89 [l0, .val (.int v), l2, l3, l4, l5] (.int v :: st) H Q := w_x (show decode kb2 88 = .ok (.iload_n 1, 1) from by decide +kernel) rfl
theorem pf2_95 : pfR tables_1 y2.cls y2.name 95 = some ("ResponseTimeGate", 27, .int) := by decide +kernel
theorem m2_89 : M2 89 ls (.int v :: .ref b :: st) (put b pre s A post) Q = M2 92 ls st (put b pre (ou s 5 v) A post) Q := w_put (show decode kb2 89 = .ok (.putfield 95, 3) from by decide +kernel) pf2_95 put_o (Nat.zero_le _) (by show 27 < 31; omega) rfl put_s5
theorem m2_92 : M2 92 [.val (.ref r), l1, l2, l3, l4, l5] st H Q = M2 93 [.val (.ref r), l1, l2, l3, l4, l5] (.ref r :: st) H Q := w_x (show decode kb2 92 = .ok (.aload_n 0, 1) from by decide +kernel) rfl
theorem m2_93 : M2 93 [l0, l1, .val (.int v), l3, l4, l5] st H Q = M2 94 [l0, l1, .val (.int v), l3, l4, l5] (.int v :: st) H Q := w_x (show decode kb2 93 = .ok (.iload_n 2, 1) from by decide +kernel) rfl
theorem pf2_98 : pfR tables_1 y2.cls y2.name 98 = some ("ResponseTimeGate", 28, .int) := by decide +kernel
theorem m2_94 : M2 94 ls (.int v :: .ref b :: st) (put b pre s A post) Q = M2 97 ls st (put b pre (ou s 6 v) A post) Q := w_put (show decode kb2 94 = .ok (.putfield 98, 3) from by decide +kernel) pf2_98 put_o (Nat.zero_le _) (by show 28 < 31; omega) rfl put_s6
theorem m2_97 : M2 97 [.val (.ref r), l1, l2, l3, l4, l5] st H Q = M2 98 [.val (.ref r), l1, l2, l3, l4, l5] (.ref r :: st) H Q := w_x (show decode kb2 97 = .ok (.aload_n 0, 1) from by decide +kernel) rfl
theorem m2_98 : M2 98 [l0, l1, l2, .val (.int v), l4, l5] st H Q = M2 99 [l0, l1, l2, .val (.int v), l4, l5] (.int v :: st) H Q := w_x (show decode kb2 98 = .ok (.iload_n 3, 1) from by decide +kernel) rfl
theorem pf2_101 : pfR tables_1 y2.cls y2.name 101 = some ("ResponseTimeGate", 29, .int) := by decide +kernel
theorem m2_99 : M2 99 ls (.int v :: .ref b :: st) (put b pre s A post) Q = M2 102 ls st (put b pre (ou s 7 v) A post) Q := w_put (show decode kb2 99 = .ok (.putfield 101, 3) from by decide +kernel) pf2_101 put_o (Nat.zero_le _) (by show 29 < 31; omega) rfl put_s7
theorem m2_102 : M2 102 [.val (.ref r), l1, l2, l3, l4, l5] st H Q = M2 103 [.val (.ref r), l1, l2, l3, l4, l5] (.ref r :: st) H Q := w_x (show decode kb2 102 = .ok (.aload_n 0, 1) from by decide +kernel) rfl
theorem m2_103 : M2 103 [l0, l1, l2, l3, .val (.int v), l5] st H Q = M2 105 [l0, l1, l2, l3, .val (.int v), l5] (.int v :: st) H Q := w_x (show decode kb2 103 = .ok (.iload 4, 2) from by decide +kernel) rfl
theorem pf2_104 : pfR tables_1 y2.cls y2.name 104 = some ("ResponseTimeGate", 30, .int) := by decide +kernel
theorem m2_105 : M2 105 ls (.int v :: .ref b :: st) (put b pre s A post) Q = M2 108 ls st (put b pre (ou s 8 v) A post) Q := w_put (show decode kb2 105 = .ok (.putfield 104, 3) from by decide +kernel) pf2_104 put_o (Nat.zero_le _) (by show 30 < 31; omega) rfl put_s8
theorem m2_108 : M2 108 ls st H Q = M2 109 ls (.int 0 :: st) H Q := w_con (show decode kb2 108 = .ok (.iconst 0, 1) from by decide +kernel) rfl (by decide)
theorem m2_109u : M2 109 [l0, l1, l2, l3, l4, .unset] ((.int v) :: st) H Q = M2 111 [l0, l1, l2, l3, l4, .val (.int v)] st H Q := w_st (i := 5) (p := isI) (show decode kb2 109 = .ok (.istore 5, 2) from by decide +kernel) rfl rfl rfl rfl rfl rfl
theorem m2_111 : M2 111 [l0, l1, l2, l3, l4, .val (.int v)] st H Q = M2 113 [l0, l1, l2, l3, l4, .val (.int v)] (.int v :: st) H Q := w_x (show decode kb2 111 = .ok (.iload 5, 2) from by decide +kernel) rfl
theorem m2_113 : M2 113 ls st H Q = M2 114 ls (.int 4 :: st) H Q := w_con (show decode kb2 113 = .ok (.iconst 4, 1) from by decide +kernel) rfl (by decide)
theorem m2_114 : M2 114 ls (.int y :: .int x :: st) H Q = if x < y then M2 117 ls st H Q else M2 139 ls st H Q := w_icmpN (show decode kb2 114 = .ok (.if_icmp .ge 25, 3) from by decide +kernel) (i_ge x y) rfl
theorem m2_117 : M2 117 [.val (.ref r), l1, l2, l3, l4, l5] st H Q = M2 118 [.val (.ref r), l1, l2, l3, l4, l5] (.ref r :: st) H Q := w_x (show decode kb2 117 = .ok (.aload_n 0, 1) from by decide +kernel) rfl
theorem m2_118 : M2 118 ls (.ref b :: st) (put b pre s A post) Q = M2 121 ls (.ref (b + 10) :: st) (put b pre s A post) Q := w_get (show decode kb2 118 = .ok (.getfield 37, 3) from by decide +kernel) gf_37 put_o rfl
theorem m2_121 : M2 121 [l0, l1, l2, l3, l4, .val (.int v)] st H Q = M2 123 [l0, l1, l2, l3, l4, .val (.int v)] (.int v :: st) H Q := w_x (show decode kb2 121 = .ok (.iload 5, 2) from by decide +kernel) rfl
theorem m2_123 : M2 123 ls st H Q = M2 124 ls (.int 0 :: st) H Q := w_con (show decode kb2 123 = .ok (.iconst 0, 1) from by decide +kernel) rfl (by decide)
theorem m2_124  : M2 124 ls (.int v :: .int j :: .ref (b + 10) :: st) (put b pre s A post) Q = (inB j (A 9) ∧ M2 125 ls st (put b pre s (ou A 9 (setA (A 9) j v)) post) Q) := w_ist (show decode kb2 124 = .ok (.iastore, 1) from by decide +kernel) rfl put_a9 (Nat.zero_le _) rfl put_w9
theorem m2_125 : M2 125 [.val (.ref r), l1, l2, l3, l4, l5] st H Q = M2 126 [.val (.ref r), l1, l2, l3, l4, l5] (.ref r :: st) H Q := w_x (show decode kb2 125 = .ok (.aload_n 0, 1) from by decide +kernel) rfl
theorem m2_126 : M2 126 ls (.ref b :: st) (put b pre s A post) Q = M2 129 ls (.ref (b + 11) :: st) (put b pre s A post) Q := w_get (show decode kb2 126 = .ok (.getfield 40, 3) from by decide +kernel) gf_40 put_o rfl
theorem m2_129 : M2 129 [l0, l1, l2, l3, l4, .val (.int v)] st H Q = M2 131 [l0, l1, l2, l3, l4, .val (.int v)] (.int v :: st) H Q := w_x (show decode kb2 129 = .ok (.iload 5, 2) from by decide +kernel) rfl
theorem m2_131 : M2 131 ls st H Q = M2 132 ls (.int 0 :: st) H Q := w_con (show decode kb2 131 = .ok (.iconst 0, 1) from by decide +kernel) rfl (by decide)
theorem m2_132  : M2 132 ls (.int v :: .int j :: .ref (b + 11) :: st) (put b pre s A post) Q = (inB j (A 10) ∧ M2 133 ls st (put b pre s (ou A 10 (setA (A 10) j v)) post) Q) := w_ist (show decode kb2 132 = .ok (.iastore, 1) from by decide +kernel) rfl put_a10 (Nat.zero_le _) rfl put_w10
theorem m2_133 : M2 133 [l0, l1, l2, l3, l4, .val (.int v)] st H Q = M2 136 [l0, l1, l2, l3, l4, .val (.int (v + 1))] st H Q := w_iinc (show decode kb2 133 = .ok (.iinc 5 1, 3) from by decide +kernel) rfl (by decide) rfl
theorem m2_136 : M2 136 ls st H Q = M2 111 ls st H Q := w_x (show decode kb2 136 = .ok (.goto (-25), 3) from by decide +kernel) rfl
theorem m2_139 : M2 139 ls st H Q = M2 140 ls (.int 0 :: st) H Q := w_con (show decode kb2 139 = .ok (.iconst 0, 1) from by decide +kernel) rfl (by decide)
theorem m2_140 : M2 140 ls (.int z :: st) H Q = Q (some (.int z)) H := w_iret (show decode kb2 140 = .ok (.ireturn, 1) from by decide +kernel) rfl
theorem m3_0 : M3 0 [.val (.ref r), l1, l2, l3] st H Q = M3 1 [.val (.ref r), l1, l2, l3] (.ref r :: st) H Q := w_x (show decode kb3 0 = .ok (.aload_n 0, 1) from by decide +kernel) rfl
theorem m3_1 : M3 1 ls (.ref b :: st) (put b pre s A post) Q = M3 4 ls (.int (s 4) :: st) (put b pre s A post) Q := w_get (show decode kb3 1 = .ok (.getfield 78, 3) from by decide +kernel) gf_78 put_o rfl
theorem m3_4 : M3 4 ls (.int x :: st) H Q = if x = 0 then M3 7 ls st H Q else M3 10 ls st H Q := w_ifN (show decode kb3 4 = .ok (.ifCond .ne 6, 3) from by decide +kernel) (z_ne x) rfl
theorem m3_7 : M3 7 ls st H Q = M3 9 ls (.int (-4) :: st) H Q := w_con (show decode kb3 7 = .ok (.bipush (-4), 2) from by decide +kernel) rfl (by decide)
theorem m3_9 : M3 9 ls (.int z :: st) H Q = Q (some (.int z)) H := w_iret (show decode kb3 9 = .ok (.ireturn, 1) from by decide +kernel) rfl
theorem m3_10 : M3 10 [.val (.ref r), l1, l2, l3] st H Q = M3 11 [.val (.ref r), l1, l2, l3] (.ref r :: st) H Q := w_x (show decode kb3 10 = .ok (.aload_n 0, 1) from by decide +kernel) rfl
theorem m3_11 : M3 11 ls (.ref b :: st) (put b pre s A post) Q = M3 14 ls (.int (s 1) :: st) (put b pre s A post) Q := w_get (show decode kb3 11 = .ok (.getfield 75, 3) from by decide +kernel) gf_75 put_o rfl
theorem m3_14u : M3 14 [l0, .unset, l2, l3] ((.int v) :: st) H Q = M3 15 [l0, .val (.int v), l2, l3] st H Q := w_st (i := 1) (p := isI) (show decode kb3 14 = .ok (.istore_n 1, 1) from by decide +kernel) rfl rfl rfl rfl rfl rfl
theorem m3_15 : M3 15 [l0, .val (.int v), l2, l3] st H Q = M3 16 [l0, .val (.int v), l2, l3] (.int v :: st) H Q := w_x (show decode kb3 15 = .ok (.iload_n 1, 1) from by decide +kernel) rfl
theorem m3_16 : M3 16 ls st H Q = M3 18 ls (.int 8 :: st) H Q := w_con (show decode kb3 16 = .ok (.bipush 8, 2) from by decide +kernel) rfl (by decide)
theorem m3_18 : M3 18 ls (.int y :: .int x :: st) H Q = if x < y then M3 28 ls st H Q else M3 21 ls st H Q := w_icmp (show decode kb3 18 = .ok (.if_icmp .lt 10, 3) from by decide +kernel) (i_lt x y) rfl
theorem m3_21 : M3 21 [.val (.ref r), l1, l2, l3] st H Q = M3 22 [.val (.ref r), l1, l2, l3] (.ref r :: st) H Q := w_x (show decode kb3 21 = .ok (.aload_n 0, 1) from by decide +kernel) rfl
theorem m3_22 : M3 22 ls st H Q = M3 23 ls (.int 0 :: st) H Q := w_con (show decode kb3 22 = .ok (.iconst 0, 1) from by decide +kernel) rfl (by decide)
theorem pf3_78 : pfR tables_1 y3.cls y3.name 78 = some ("ResponseTimeGate", 22, .boolean) := by decide +kernel
theorem m3_23 : M3 23 ls (.int v :: .ref b :: st) (put b pre s A post) Q = M3 26 ls st (put b pre (ou s 4 (nar .boolean v)) A post) Q := w_put (show decode kb3 23 = .ok (.putfield 78, 3) from by decide +kernel) pf3_78 put_o (Nat.zero_le _) (by show 22 < 31; omega) rfl put_s4
theorem m3_26 : M3 26 ls st H Q = M3 27 ls (.int (-1) :: st) H Q := w_con (show decode kb3 26 = .ok (.iconst (-1), 1) from by decide +kernel) rfl (by decide)
theorem m3_27 : M3 27 ls (.int z :: st) H Q = Q (some (.int z)) H := w_iret (show decode kb3 27 = .ok (.ireturn, 1) from by decide +kernel) rfl
theorem m3_28 : M3 28 [.val (.ref r), l1, l2, l3] st H Q = M3 29 [.val (.ref r), l1, l2, l3] (.ref r :: st) H Q := w_x (show decode kb3 28 = .ok (.aload_n 0, 1) from by decide +kernel) rfl
theorem m3_29 : M3 29 [.val (.ref r), l1, l2, l3] st H Q = M3 30 [.val (.ref r), l1, l2, l3] (.ref r :: st) H Q := w_x (show decode kb3 29 = .ok (.aload_n 0, 1) from by decide +kernel) rfl
theorem m3_30 : M3 30 ls (.ref b :: st) (put b pre s A post) Q = M3 33 ls (.int (s 2) :: st) (put b pre s A post) Q := w_get (show decode kb3 30 = .ok (.getfield 85, 3) from by decide +kernel) gf_85 put_o rfl
theorem m3_33 : M3 33 [.val (.ref r), l1, l2, l3] st H Q = M3 34 [.val (.ref r), l1, l2, l3] (.ref r :: st) H Q := w_x (show decode kb3 33 = .ok (.aload_n 0, 1) from by decide +kernel) rfl
theorem m3_34 : M3 34 ls (.ref b :: st) (put b pre s A post) Q = M3 37 ls (.int (s 5) :: st) (put b pre s A post) Q := w_get (show decode kb3 34 = .ok (.getfield 95, 3) from by decide +kernel) gf_95 put_o rfl
theorem cr3_111 : vR tables_1 dn y3 111 = some (true, y11, prog_1_method_10_code, 4, (some .int), 2, 22) := pR_of (cR_of (by decide +kernel) rc_11 dn_11 dn_3 (sig := ⟨[.int, .int], some .int⟩) (by decide +kernel) (by decide +kernel) rfl rfl) (by decide +kernel) (by decide +kernel)
theorem m3_37 (a0 : Int32) (a1 : Int32) : M3 37 ls [.int a1, .int a0, .ref b] (put b pre s A post) Q = M11 0 [.val (.ref b), .val (.int a0), .val (.int a1), .unset] [] (put b pre s A post) (fun v H1 => M3 40 ls (v.toList ++ []) H1 Q) := w_virt (as := [.int a1, .int a0]) (rest := []) (a := b) (show decode kb3 37 = .ok (.invokevirtual 111, 3) from by decide +kernel) cr3_111 put_o rfl rfl (Nat.le_of_ble_eq_true rfl) (by show 3 ≤ 4; omega) rfl
theorem m3_40u : M3 40 [l0, l1, .unset, l3] ((.int v) :: st) H Q = M3 41 [l0, l1, .val (.int v), l3] st H Q := w_st (i := 2) (p := isI) (show decode kb3 40 = .ok (.istore_n 2, 1) from by decide +kernel) rfl rfl rfl rfl rfl rfl
theorem m3_41 : M3 41 [l0, l1, .val (.int v), l3] st H Q = M3 42 [l0, l1, .val (.int v), l3] (.int v :: st) H Q := w_x (show decode kb3 41 = .ok (.iload_n 2, 1) from by decide +kernel) rfl
theorem m3_42 : M3 42 ls st H Q = M3 45 ls (.int 840 :: st) H Q := w_con (show decode kb3 42 = .ok (.sipush 840, 3) from by decide +kernel) rfl (by decide)
theorem m3_45 : M3 45 ls (.int y :: .int x :: st) H Q = if y < x then M3 48 ls st H Q else M3 61 ls st H Q := w_icmpN (show decode kb3 45 = .ok (.if_icmp .le 16, 3) from by decide +kernel) (i_le x y) rfl
theorem m3_48 : M3 48 [.val (.ref r), l1, l2, l3] st H Q = M3 49 [.val (.ref r), l1, l2, l3] (.ref r :: st) H Q := w_x (show decode kb3 48 = .ok (.aload_n 0, 1) from by decide +kernel) rfl
theorem m3_49 : M3 49 ls st H Q = M3 50 ls (.int 0 :: st) H Q := w_con (show decode kb3 49 = .ok (.iconst 0, 1) from by decide +kernel) rfl (by decide)
theorem m3_50 : M3 50 ls (.int v :: .ref b :: st) (put b pre s A post) Q = M3 53 ls st (put b pre (ou s 4 (nar .boolean v)) A post) Q := w_put (show decode kb3 50 = .ok (.putfield 78, 3) from by decide +kernel) pf3_78 put_o (Nat.zero_le _) (by show 22 < 31; omega) rfl put_s4
theorem m3_53 : M3 53 [.val (.ref r), l1, l2, l3] st H Q = M3 54 [.val (.ref r), l1, l2, l3] (.ref r :: st) H Q := w_x (show decode kb3 53 = .ok (.aload_n 0, 1) from by decide +kernel) rfl
theorem m3_54 : M3 54 ls st H Q = M3 55 ls (.int (-1) :: st) H Q := w_con (show decode kb3 54 = .ok (.iconst (-1), 1) from by decide +kernel) rfl (by decide)
theorem pf3_82 : pfR tables_1 y3.cls y3.name 82 = some ("ResponseTimeGate", 23, .int) := by decide +kernel
theorem m3_55 : M3 55 ls (.int v :: .ref b :: st) (put b pre s A post) Q = M3 58 ls st (put b pre (ou s 3 v) A post) Q := w_put (show decode kb3 55 = .ok (.putfield 82, 3) from by decide +kernel) pf3_82 put_o (Nat.zero_le _) (by show 23 < 31; omega) rfl put_s3
theorem m3_58 : M3 58 ls st H Q = M3 60 ls (.int (-6) :: st) H Q := w_con (show decode kb3 58 = .ok (.bipush (-6), 2) from by decide +kernel) rfl (by decide)
theorem m3_60 : M3 60 ls (.int z :: st) H Q = Q (some (.int z)) H := w_iret (show decode kb3 60 = .ok (.ireturn, 1) from by decide +kernel) rfl
theorem m3_61 : M3 61 [.val (.ref r), l1, l2, l3] st H Q = M3 62 [.val (.ref r), l1, l2, l3] (.ref r :: st) H Q := w_x (show decode kb3 61 = .ok (.aload_n 0, 1) from by decide +kernel) rfl
theorem m3_62 : M3 62 [l0, .val (.int v), l2, l3] st H Q = M3 63 [l0, .val (.int v), l2, l3] (.int v :: st) H Q := w_x (show decode kb3 62 = .ok (.iload_n 1, 1) from by decide +kernel) rfl
theorem cr3_115 : vR tables_1 dn y3 115 = some (true, y13, prog_1_method_7_code, 3, none, 1, 41) := pR_of (cR_of (by decide +kernel) rc_13 dn_13 dn_3 (sig := ⟨[.int], none⟩) (by decide +kernel) (by decide +kernel) rfl rfl) (by decide +kernel) (by decide +kernel)
theorem m3_63 (a0 : Int32) : M3 63 ls [.int a0, .ref b] (put b pre s A post) Q = M13 0 [.val (.ref b), .val (.int a0), .unset] [] (put b pre s A post) (fun v H1 => M3 66 ls (v.toList ++ []) H1 Q) := w_virt (as := [.int a0]) (rest := []) (a := b) (show decode kb3 63 = .ok (.invokevirtual 115, 3) from by decide +kernel) cr3_115 put_o rfl rfl (Nat.le_of_ble_eq_true rfl) (by show 2 ≤ 3; omega) rfl
theorem m3_66 : M3 66 [.val (.ref r), l1, l2, l3] st H Q = M3 67 [.val (.ref r), l1, l2, l3] (.ref r :: st) H Q := w_x (show decode kb3 66 = .ok (.aload_n 0, 1) from by decide +kernel) rfl
theorem m3_67 : M3 67 [l0, .val (.int v), l2, l3] st H Q = M3 68 [l0, .val (.int v), l2, l3] (.int v :: st) H Q := w_x (show decode kb3 67 = .ok (.iload_n 1, 1) from by decide +kernel) rfl
theorem m3_68 : M3 68 ls st H Q = M3 69 ls (.int 1 :: st) H Q := w_con (show decode kb3 68 = .ok (.iconst 1, 1) from by decide +kernel) rfl (by decide)
theorem m3_69 : M3 69 ls (.int y :: .int x :: st) H Q = M3 70 ls (.int (x + y) :: st) H Q := w_x (show decode kb3 69 = .ok (.iadd, 1) from by decide +kernel) rfl
theorem cr3_119 : vR tables_1 dn y3 119 = some (true, y14, prog_1_method_11_code, 5, (some .int), 1, 0) := pR_of (cR_of (by decide +kernel) rc_14 dn_14 dn_3 (sig := ⟨[.int], some .int⟩) (by decide +kernel) (by decide +kernel) rfl rfl) (by decide +kernel) (by decide +kernel)
theorem m3_70 (a0 : Int32) : M3 70 ls [.int a0, .ref b] (put b pre s A post) Q = M14 0 [.val (.ref b), .val (.int a0), .unset, .unset, .unset] [] (put b pre s A post) (fun v H1 => M3 73 ls (v.toList ++ []) H1 Q) := w_virt (as := [.int a0]) (rest := []) (a := b) (show decode kb3 70 = .ok (.invokevirtual 119, 3) from by decide +kernel) cr3_119 put_o rfl rfl (Nat.le_of_ble_eq_true rfl) (by show 2 ≤ 5; omega) rfl
theorem m3_73u : M3 73 [l0, l1, l2, .unset] ((.int v) :: st) H Q = M3 74 [l0, l1, l2, .val (.int v)] st H Q := w_st (i := 3) (p := isI) (show decode kb3 73 = .ok (.istore_n 3, 1) from by decide +kernel) rfl rfl rfl rfl rfl rfl
theorem m3_74 : M3 74 [l0, l1, l2, .val (.int v)] st H Q = M3 75 [l0, l1, l2, .val (.int v)] (.int v :: st) H Q := w_x (show decode kb3 74 = .ok (.iload_n 3, 1) from by decide +kernel) rfl
theorem m3_75 : M3 75 ls (.int x :: st) H Q = if x < 0 then M3 91 ls st H Q else M3 78 ls st H Q := w_if (show decode kb3 75 = .ok (.ifCond .lt 16, 3) from by decide +kernel) (z_lt x) rfl
theorem m3_78 : M3 78 [.val (.ref r), l1, l2, l3] st H Q = M3 79 [.val (.ref r), l1, l2, l3] (.ref r :: st) H Q := w_x (show decode kb3 78 = .ok (.aload_n 0, 1) from by decide +kernel) rfl
theorem m3_79 : M3 79 ls st H Q = M3 80 ls (.int 0 :: st) H Q := w_con (show decode kb3 79 = .ok (.iconst 0, 1) from by decide +kernel) rfl (by decide)
theorem m3_80 : M3 80 ls (.int v :: .ref b :: st) (put b pre s A post) Q = M3 83 ls st (put b pre (ou s 4 (nar .boolean v)) A post) Q := w_put (show decode kb3 80 = .ok (.putfield 78, 3) from by decide +kernel) pf3_78 put_o (Nat.zero_le _) (by show 22 < 31; omega) rfl put_s4
theorem m3_83 : M3 83 [.val (.ref r), l1, l2, l3] st H Q = M3 84 [.val (.ref r), l1, l2, l3] (.ref r :: st) H Q := w_x (show decode kb3 83 = .ok (.aload_n 0, 1) from by decide +kernel) rfl
theorem m3_84 : M3 84 [l0, l1, l2, .val (.int v)] st H Q = M3 85 [l0, l1, l2, .val (.int v)] (.int v :: st) H Q := w_x (show decode kb3 84 = .ok (.iload_n 3, 1) from by decide +kernel) rfl
theorem m3_85 : M3 85 ls (.int v :: .ref b :: st) (put b pre s A post) Q = M3 88 ls st (put b pre (ou s 3 v) A post) Q := w_put (show decode kb3 85 = .ok (.putfield 82, 3) from by decide +kernel) pf3_82 put_o (Nat.zero_le _) (by show 23 < 31; omega) rfl put_s3
theorem m3_88 : M3 88 ls st H Q = M3 90 ls (.int (-7) :: st) H Q := w_con (show decode kb3 88 = .ok (.bipush (-7), 2) from by decide +kernel) rfl (by decide)
theorem m3_90 : M3 90 ls (.int z :: st) H Q = Q (some (.int z)) H := w_iret (show decode kb3 90 = .ok (.ireturn, 1) from by decide +kernel) rfl
theorem m3_91 : M3 91 [.val (.ref r), l1, l2, l3] st H Q = M3 92 [.val (.ref r), l1, l2, l3] (.ref r :: st) H Q := w_x (show decode kb3 91 = .ok (.aload_n 0, 1) from by decide +kernel) rfl
theorem m3_92 : M3 92 [l0, .val (.int v), l2, l3] st H Q = M3 93 [l0, .val (.int v), l2, l3] (.int v :: st) H Q := w_x (show decode kb3 92 = .ok (.iload_n 1, 1) from by decide +kernel) rfl
theorem m3_93 : M3 93 ls st H Q = M3 94 ls (.int 1 :: st) H Q := w_con (show decode kb3 93 = .ok (.iconst 1, 1) from by decide +kernel) rfl (by decide)
theorem m3_94 : M3 94 ls (.int y :: .int x :: st) H Q = M3 95 ls (.int (x + y) :: st) H Q := w_x (show decode kb3 94 = .ok (.iadd, 1) from by decide +kernel) rfl
theorem cr3_123 : vR tables_1 dn y3 123 = some (true, y19, prog_1_method_8_code, 3, none, 1, 41) := pR_of (cR_of (by decide +kernel) rc_19 dn_19 dn_3 (sig := ⟨[.int], none⟩) (by decide +kernel) (by decide +kernel) rfl rfl) (by decide +kernel) (by decide +kernel)
theorem m3_95 (a0 : Int32) : M3 95 ls [.int a0, .ref b] (put b pre s A post) Q = M19 0 [.val (.ref b), .val (.int a0), .unset] [] (put b pre s A post) (fun v H1 => M3 98 ls (v.toList ++ []) H1 Q) := w_virt (as := [.int a0]) (rest := []) (a := b) (show decode kb3 95 = .ok (.invokevirtual 123, 3) from by decide +kernel) cr3_123 put_o rfl rfl (Nat.le_of_ble_eq_true rfl) (by show 2 ≤ 3; omega) rfl
theorem m3_98 : M3 98 [.val (.ref r), l1, l2, l3] st H Q = M3 99 [.val (.ref r), l1, l2, l3] (.ref r :: st) H Q := w_x (show decode kb3 98 = .ok (.aload_n 0, 1) from by decide +kernel) rfl
theorem m3_99 : M3 99 [l0, .val (.int v), l2, l3] st H Q = M3 100 [l0, .val (.int v), l2, l3] (.int v :: st) H Q := w_x (show decode kb3 99 = .ok (.iload_n 1, 1) from by decide +kernel) rfl
theorem m3_100 : M3 100 ls st H Q = M3 101 ls (.int 1 :: st) H Q := w_con (show decode kb3 100 = .ok (.iconst 1, 1) from by decide +kernel) rfl (by decide)
theorem m3_101 : M3 101 ls (.int y :: .int x :: st) H Q = M3 102 ls (.int (x + y) :: st) H Q := w_x (show decode kb3 101 = .ok (.iadd, 1) from by decide +kernel) rfl
theorem pf3_75 : pfR tables_1 y3.cls y3.name 75 = some ("ResponseTimeGate", 21, .int) := by decide +kernel
theorem m3_102 : M3 102 ls (.int v :: .ref b :: st) (put b pre s A post) Q = M3 105 ls st (put b pre (ou s 1 v) A post) Q := w_put (show decode kb3 102 = .ok (.putfield 75, 3) from by decide +kernel) pf3_75 put_o (Nat.zero_le _) (by show 21 < 31; omega) rfl put_s1
theorem m3_105 : M3 105 [.val (.ref r), l1, l2, l3] st H Q = M3 106 [.val (.ref r), l1, l2, l3] (.ref r :: st) H Q := w_x (show decode kb3 105 = .ok (.aload_n 0, 1) from by decide +kernel) rfl
theorem m3_106 : M3 106 ls st H Q = M3 107 ls (.int 0 :: st) H Q := w_con (show decode kb3 106 = .ok (.iconst 0, 1) from by decide +kernel) rfl (by decide)
theorem m3_107 : M3 107 ls (.int v :: .ref b :: st) (put b pre s A post) Q = M3 110 ls st (put b pre (ou s 4 (nar .boolean v)) A post) Q := w_put (show decode kb3 107 = .ok (.putfield 78, 3) from by decide +kernel) pf3_78 put_o (Nat.zero_le _) (by show 22 < 31; omega) rfl put_s4
theorem m3_110 : M3 110 [.val (.ref r), l1, l2, l3] st H Q = M3 111 [.val (.ref r), l1, l2, l3] (.ref r :: st) H Q := w_x (show decode kb3 110 = .ok (.aload_n 0, 1) from by decide +kernel) rfl
theorem m3_111 : M3 111 [l0, l1, .val (.int v), l3] st H Q = M3 112 [l0, l1, .val (.int v), l3] (.int v :: st) H Q := w_x (show decode kb3 111 = .ok (.iload_n 2, 1) from by decide +kernel) rfl
theorem pf3_85 : pfR tables_1 y3.cls y3.name 85 = some ("ResponseTimeGate", 24, .int) := by decide +kernel
theorem m3_112 : M3 112 ls (.int v :: .ref b :: st) (put b pre s A post) Q = M3 115 ls st (put b pre (ou s 2 v) A post) Q := w_put (show decode kb3 112 = .ok (.putfield 85, 3) from by decide +kernel) pf3_85 put_o (Nat.zero_le _) (by show 24 < 31; omega) rfl put_s2
theorem m3_115 : M3 115 [.val (.ref r), l1, l2, l3] st H Q = M3 116 [.val (.ref r), l1, l2, l3] (.ref r :: st) H Q := w_x (show decode kb3 115 = .ok (.aload_n 0, 1) from by decide +kernel) rfl
theorem m3_116 : M3 116 ls st H Q = M3 117 ls (.int (-1) :: st) H Q := w_con (show decode kb3 116 = .ok (.iconst (-1), 1) from by decide +kernel) rfl (by decide)
theorem m3_117 : M3 117 ls (.int v :: .ref b :: st) (put b pre s A post) Q = M3 120 ls st (put b pre (ou s 3 v) A post) Q := w_put (show decode kb3 117 = .ok (.putfield 82, 3) from by decide +kernel) pf3_82 put_o (Nat.zero_le _) (by show 23 < 31; omega) rfl put_s3
theorem m3_120 : M3 120 [.val (.ref r), l1, l2, l3] st H Q = M3 121 [.val (.ref r), l1, l2, l3] (.ref r :: st) H Q := w_x (show decode kb3 120 = .ok (.aload_n 0, 1) from by decide +kernel) rfl
theorem cr3_88 : vR tables_1 dn y3 88 = some (true, y1, prog_1_method_23_code, 2, none, 0, 42) := pR_of (cR_of (by decide +kernel) rc_1 dn_1 dn_3 (sig := ⟨[], none⟩) (by decide +kernel) (by decide +kernel) rfl rfl) (by decide +kernel) (by decide +kernel)
theorem m3_121 : M3 121 ls [.ref b] (put b pre s A post) Q = M1 0 [.val (.ref b), .unset] [] (put b pre s A post) (fun v H1 => M3 124 ls (v.toList ++ []) H1 Q) := w_virt (as := []) (rest := []) (a := b) (show decode kb3 121 = .ok (.invokevirtual 88, 3) from by decide +kernel) cr3_88 put_o rfl rfl (Nat.le_of_ble_eq_true rfl) (by show 1 ≤ 2; omega) rfl
theorem m3_124 : M3 124 [l0, .val (.int v), l2, l3] st H Q = M3 125 [l0, .val (.int v), l2, l3] (.int v :: st) H Q := w_x (show decode kb3 124 = .ok (.iload_n 1, 1) from by decide +kernel) rfl
theorem m3_125 : M3 125 ls (.int z :: st) H Q = Q (some (.int z)) H := w_iret (show decode kb3 125 = .ok (.ireturn, 1) from by decide +kernel) rfl
theorem m4_0 : M4 0 [.val (.ref r)] st H Q = M4 1 [.val (.ref r)] (.ref r :: st) H Q := w_x (show decode kb4 0 = .ok (.aload_n 0, 1) from by decide +kernel) rfl
theorem m4_1 : M4 1 ls (.ref b :: st) (put b pre s A post) Q = M4 4 ls (.int (s 1) :: st) (put b pre s A post) Q := w_get (show decode kb4 1 = .ok (.getfield 75, 3) from by decide +kernel) gf_75 put_o rfl
theorem m4_4 : M4 4 ls (.int z :: st) H Q = Q (some (.int z)) H := w_iret (show decode kb4 4 = .ok (.ireturn, 1) from by decide +kernel) rfl
theorem m5_0 : M5 0 [.val (.ref r), l1] st H Q = M5 1 [.val (.ref r), l1] (.ref r :: st) H Q := w_x (show decode kb5 0 = .ok (.aload_n 0, 1) from by decide +kernel) rfl
theorem m5_1 : M5 1 [l0, .val (.int v)] st H Q = M5 2 [l0, .val (.int v)] (.int v :: st) H Q := w_x (show decode kb5 1 = .ok (.iload_n 1, 1) from by decide +kernel) rfl
theorem cr5_142 : vR tables_1 dn y5 142 = some (true, y6, prog_1_method_16_code, 2, (some .boolean), 1, 0) := pR_of (cR_of (by decide +kernel) rc_6 dn_6 dn_5 (sig := ⟨[.int], some .boolean⟩) (by decide +kernel) (by decide +kernel) rfl rfl) (by decide +kernel) (by decide +kernel)
theorem m5_2 (a0 : Int32) : M5 2 ls [.int a0, .ref b] (put b pre s A post) Q = M6 0 [.val (.ref b), .val (.int a0)] [] (put b pre s A post) (fun v H1 => M5 5 ls (v.toList ++ []) H1 Q) := w_virt (as := [.int a0]) (rest := []) (a := b) (show decode kb5 2 = .ok (.invokevirtual 142, 3) from by decide +kernel) cr5_142 put_o rfl rfl (Nat.le_of_ble_eq_true rfl) (by show 2 ≤ 2; omega) rfl
theorem m5_5 : M5 5 ls (.int x :: st) H Q = if x = 0 then M5 8 ls st H Q else M5 10 ls st H Q := w_ifN (show decode kb5 5 = .ok (.ifCond .ne 5, 3) from by decide +kernel) (z_ne x) rfl
theorem m5_8 : M5 8 ls st H Q = M5 9 ls (.int (-1) :: st) H Q := w_con (show decode kb5 8 = .ok (.iconst (-1), 1) from by decide +kernel) rfl (by decide)
theorem m5_9 : M5 9 ls (.int z :: st) H Q = Q (some (.int z)) H := w_iret (show decode kb5 9 = .ok (.ireturn, 1) from by decide +kernel) rfl
theorem m5_10 : M5 10 [.val (.ref r), l1] st H Q = M5 11 [.val (.ref r), l1] (.ref r :: st) H Q := w_x (show decode kb5 10 = .ok (.aload_n 0, 1) from by decide +kernel) rfl
theorem m5_11 : M5 11 ls (.ref b :: st) (put b pre s A post) Q = M5 14 ls (.ref (b + 7) :: st) (put b pre s A post) Q := w_get (show decode kb5 11 = .ok (.getfield 28, 3) from by decide +kernel) gf_28 put_o rfl
theorem m5_14 : M5 14 [l0, .val (.int v)] st H Q = M5 15 [l0, .val (.int v)] (.int v :: st) H Q := w_x (show decode kb5 14 = .ok (.iload_n 1, 1) from by decide +kernel) rfl
theorem m5_15  : M5 15 ls (.int j :: .ref (b + 7) :: st) (put b pre s A post) Q = (inB j (A 6) ∧ M5 16 ls (.int (getA (A 6) j) :: st) (put b pre s A post) Q) := w_ild (show decode kb5 15 = .ok (.iaload, 1) from by decide +kernel) rfl put_a6
theorem m5_16 : M5 16 ls (.int z :: st) H Q = Q (some (.int z)) H := w_iret (show decode kb5 16 = .ok (.ireturn, 1) from by decide +kernel) rfl
theorem m6_0 : M6 0 [l0, .val (.int v)] st H Q = M6 1 [l0, .val (.int v)] (.int v :: st) H Q := w_x (show decode kb6 0 = .ok (.iload_n 1, 1) from by decide +kernel) rfl
theorem m6_1 : M6 1 ls (.int x :: st) H Q = if x < 0 then M6 16 ls st H Q else M6 4 ls st H Q := w_if (show decode kb6 1 = .ok (.ifCond .lt 15, 3) from by decide +kernel) (z_lt x) rfl
theorem m6_4 : M6 4 [l0, .val (.int v)] st H Q = M6 5 [l0, .val (.int v)] (.int v :: st) H Q := w_x (show decode kb6 4 = .ok (.iload_n 1, 1) from by decide +kernel) rfl
theorem m6_5 : M6 5 [.val (.ref r), l1] st H Q = M6 6 [.val (.ref r), l1] (.ref r :: st) H Q := w_x (show decode kb6 5 = .ok (.aload_n 0, 1) from by decide +kernel) rfl
theorem m6_6 : M6 6 ls (.ref b :: st) (put b pre s A post) Q = M6 9 ls (.int (s 1) :: st) (put b pre s A post) Q := w_get (show decode kb6 6 = .ok (.getfield 75, 3) from by decide +kernel) gf_75 put_o rfl
theorem m6_9 : M6 9 ls (.int y :: .int x :: st) H Q = if x < y then M6 12 ls st H Q else M6 16 ls st H Q := w_icmpN (show decode kb6 9 = .ok (.if_icmp .ge 7, 3) from by decide +kernel) (i_ge x y) rfl
theorem m6_12 : M6 12 ls st H Q = M6 13 ls (.int 1 :: st) H Q := w_con (show decode kb6 12 = .ok (.iconst 1, 1) from by decide +kernel) rfl (by decide)
theorem m6_13 : M6 13 ls st H Q = M6 17 ls st H Q := w_x (show decode kb6 13 = .ok (.goto 4, 3) from by decide +kernel) rfl
theorem m6_16 : M6 16 ls st H Q = M6 17 ls (.int 0 :: st) H Q := w_con (show decode kb6 16 = .ok (.iconst 0, 1) from by decide +kernel) rfl (by decide)
theorem m6_17 : M6 17 ls (.int z :: st) H Q = Q (some (.int (nar .boolean z))) H := w_iretN (show decode kb6 17 = .ok (.ireturn, 1) from by decide +kernel) rfl (by simp)
theorem m7_0 : M7 0 [.val (.ref r), l1] st H Q = M7 1 [.val (.ref r), l1] (.ref r :: st) H Q := w_x (show decode kb7 0 = .ok (.aload_n 0, 1) from by decide +kernel) rfl
theorem m7_1 : M7 1 [l0, .val (.int v)] st H Q = M7 2 [l0, .val (.int v)] (.int v :: st) H Q := w_x (show decode kb7 1 = .ok (.iload_n 1, 1) from by decide +kernel) rfl
theorem cr7_142 : vR tables_1 dn y7 142 = some (true, y6, prog_1_method_16_code, 2, (some .boolean), 1, 0) := pR_of (cR_of (by decide +kernel) rc_6 dn_6 dn_7 (sig := ⟨[.int], some .boolean⟩) (by decide +kernel) (by decide +kernel) rfl rfl) (by decide +kernel) (by decide +kernel)
theorem m7_2 (a0 : Int32) : M7 2 ls [.int a0, .ref b] (put b pre s A post) Q = M6 0 [.val (.ref b), .val (.int a0)] [] (put b pre s A post) (fun v H1 => M7 5 ls (v.toList ++ []) H1 Q) := w_virt (as := [.int a0]) (rest := []) (a := b) (show decode kb7 2 = .ok (.invokevirtual 142, 3) from by decide +kernel) cr7_142 put_o rfl rfl (Nat.le_of_ble_eq_true rfl) (by show 2 ≤ 2; omega) rfl
theorem m7_5 : M7 5 ls (.int x :: st) H Q = if x = 0 then M7 8 ls st H Q else M7 10 ls st H Q := w_ifN (show decode kb7 5 = .ok (.ifCond .ne 5, 3) from by decide +kernel) (z_ne x) rfl
theorem m7_8 : M7 8 ls st H Q = M7 9 ls (.int (-1) :: st) H Q := w_con (show decode kb7 8 = .ok (.iconst (-1), 1) from by decide +kernel) rfl (by decide)
theorem m7_9 : M7 9 ls (.int z :: st) H Q = Q (some (.int z)) H := w_iret (show decode kb7 9 = .ok (.ireturn, 1) from by decide +kernel) rfl
theorem m7_10 : M7 10 [.val (.ref r), l1] st H Q = M7 11 [.val (.ref r), l1] (.ref r :: st) H Q := w_x (show decode kb7 10 = .ok (.aload_n 0, 1) from by decide +kernel) rfl
theorem m7_11 : M7 11 ls (.ref b :: st) (put b pre s A post) Q = M7 14 ls (.ref (b + 8) :: st) (put b pre s A post) Q := w_get (show decode kb7 11 = .ok (.getfield 31, 3) from by decide +kernel) gf_31 put_o rfl
theorem m7_14 : M7 14 [l0, .val (.int v)] st H Q = M7 15 [l0, .val (.int v)] (.int v :: st) H Q := w_x (show decode kb7 14 = .ok (.iload_n 1, 1) from by decide +kernel) rfl
theorem m7_15  : M7 15 ls (.int j :: .ref (b + 8) :: st) (put b pre s A post) Q = (inB j (A 7) ∧ M7 16 ls (.int (getA (A 7) j) :: st) (put b pre s A post) Q) := w_ild (show decode kb7 15 = .ok (.iaload, 1) from by decide +kernel) rfl put_a7
theorem m7_16 : M7 16 ls (.int z :: st) H Q = Q (some (.int z)) H := w_iret (show decode kb7 16 = .ok (.ireturn, 1) from by decide +kernel) rfl
theorem m8_0 : M8 0 [.val (.ref r)] st H Q = M8 1 [.val (.ref r)] (.ref r :: st) H Q := w_x (show decode kb8 0 = .ok (.aload_n 0, 1) from by decide +kernel) rfl
theorem m8_1 : M8 1 ls (.ref b :: st) (put b pre s A post) Q = M8 4 ls (.int (s 2) :: st) (put b pre s A post) Q := w_get (show decode kb8 1 = .ok (.getfield 85, 3) from by decide +kernel) gf_85 put_o rfl
theorem m8_4 : M8 4 ls (.int z :: st) H Q = Q (some (.int z)) H := w_iret (show decode kb8 4 = .ok (.ireturn, 1) from by decide +kernel) rfl
theorem m9_0 : M9 0 [.val (.ref r)] st H Q = M9 1 [.val (.ref r)] (.ref r :: st) H Q := w_x (show decode kb9 0 = .ok (.aload_n 0, 1) from by decide +kernel) rfl
theorem m9_1 : M9 1 ls (.ref b :: st) (put b pre s A post) Q = M9 4 ls (.int (s 3) :: st) (put b pre s A post) Q := w_get (show decode kb9 1 = .ok (.getfield 82, 3) from by decide +kernel) gf_82 put_o rfl
theorem m9_4 : M9 4 ls (.int z :: st) H Q = Q (some (.int z)) H := w_iret (show decode kb9 4 = .ok (.ireturn, 1) from by decide +kernel) rfl
theorem m10_0 : M10 0 ls st H Q = M10 1 ls (.int 0 :: st) H Q := w_con (show decode kb10 0 = .ok (.iconst 0, 1) from by decide +kernel) rfl (by decide)
theorem m10_1u : M10 1 [l0, l1, .unset] ((.int v) :: st) H Q = M10 2 [l0, l1, .val (.int v)] st H Q := w_st (i := 2) (p := isI) (show decode kb10 1 = .ok (.istore_n 2, 1) from by decide +kernel) rfl rfl rfl rfl rfl rfl
theorem m10_2 : M10 2 [l0, l1, .val (.int v)] st H Q = M10 3 [l0, l1, .val (.int v)] (.int v :: st) H Q := w_x (show decode kb10 2 = .ok (.iload_n 2, 1) from by decide +kernel) rfl
theorem m10_3 : M10 3 [.val (.ref r), l1, l2] st H Q = M10 4 [.val (.ref r), l1, l2] (.ref r :: st) H Q := w_x (show decode kb10 3 = .ok (.aload_n 0, 1) from by decide +kernel) rfl
theorem m10_4 : M10 4 ls (.ref b :: st) (put b pre s A post) Q = M10 7 ls (.int (s 1) :: st) (put b pre s A post) Q := w_get (show decode kb10 4 = .ok (.getfield 75, 3) from by decide +kernel) gf_75 put_o rfl
theorem m10_7 : M10 7 ls (.int y :: .int x :: st) H Q = if x < y then M10 10 ls st H Q else M10 28 ls st H Q := w_icmpN (show decode kb10 7 = .ok (.if_icmp .ge 21, 3) from by decide +kernel) (i_ge x y) rfl
theorem m10_10 : M10 10 [.val (.ref r), l1, l2] st H Q = M10 11 [.val (.ref r), l1, l2] (.ref r :: st) H Q := w_x (show decode kb10 10 = .ok (.aload_n 0, 1) from by decide +kernel) rfl
theorem m10_11 : M10 11 ls (.ref b :: st) (put b pre s A post) Q = M10 14 ls (.ref (b + 4) :: st) (put b pre s A post) Q := w_get (show decode kb10 11 = .ok (.getfield 19, 3) from by decide +kernel) gf_19 put_o rfl
theorem m10_14 : M10 14 [l0, l1, .val (.int v)] st H Q = M10 15 [l0, l1, .val (.int v)] (.int v :: st) H Q := w_x (show decode kb10 14 = .ok (.iload_n 2, 1) from by decide +kernel) rfl
theorem m10_15  : M10 15 ls (.int j :: .ref (b + 4) :: st) (put b pre s A post) Q = (inB j (A 3) ∧ M10 16 ls (.int (getA (A 3) j) :: st) (put b pre s A post) Q) := w_ild (show decode kb10 15 = .ok (.iaload, 1) from by decide +kernel) rfl put_a3
theorem m10_16 : M10 16 [l0, .val (.int v), l2] st H Q = M10 17 [l0, .val (.int v), l2] (.int v :: st) H Q := w_x (show decode kb10 16 = .ok (.iload_n 1, 1) from by decide +kernel) rfl
theorem m10_17 : M10 17 ls (.int y :: .int x :: st) H Q = if x = y then M10 20 ls st H Q else M10 22 ls st H Q := w_icmpN (show decode kb10 17 = .ok (.if_icmp .ne 5, 3) from by decide +kernel) (i_ne x y) rfl
theorem m10_20 : M10 20 ls st H Q = M10 21 ls (.int 1 :: st) H Q := w_con (show decode kb10 20 = .ok (.iconst 1, 1) from by decide +kernel) rfl (by decide)
theorem m10_21 : M10 21 ls (.int z :: st) H Q = Q (some (.int (nar .boolean z))) H := w_iretN (show decode kb10 21 = .ok (.ireturn, 1) from by decide +kernel) rfl (by simp)
theorem m10_22 : M10 22 [l0, l1, .val (.int v)] st H Q = M10 25 [l0, l1, .val (.int (v + 1))] st H Q := w_iinc (show decode kb10 22 = .ok (.iinc 2 1, 3) from by decide +kernel) rfl (by decide) rfl
theorem m10_25 : M10 25 ls st H Q = M10 2 ls st H Q := w_x (show decode kb10 25 = .ok (.goto (-23), 3) from by decide +kernel) rfl
theorem m10_28 : M10 28 ls st H Q = M10 29 ls (.int 0 :: st) H Q := w_con (show decode kb10 28 = .ok (.iconst 0, 1) from by decide +kernel) rfl (by decide)
theorem m10_29 : M10 29 ls (.int z :: st) H Q = Q (some (.int (nar .boolean z))) H := w_iretN (show decode kb10 29 = .ok (.ireturn, 1) from by decide +kernel) rfl (by simp)
theorem m11_0 : M11 0 [l0, .val (.int v), l2, l3] st H Q = M11 1 [l0, .val (.int v), l2, l3] (.int v :: st) H Q := w_x (show decode kb11 0 = .ok (.iload_n 1, 1) from by decide +kernel) rfl
theorem m11_1 : M11 1 ls st H Q = M11 2 ls (.int 1 :: st) H Q := w_con (show decode kb11 1 = .ok (.iconst 1, 1) from by decide +kernel) rfl (by decide)
theorem m11_2 : M11 2 ls (.int y :: .int x :: st) H Q = if x < y then M11 10 ls st H Q else M11 5 ls st H Q := w_icmp (show decode kb11 2 = .ok (.if_icmp .lt 8, 3) from by decide +kernel) (i_lt x y) rfl
theorem m11_5 : M11 5 [l0, l1, .val (.int v), l3] st H Q = M11 6 [l0, l1, .val (.int v), l3] (.int v :: st) H Q := w_x (show decode kb11 5 = .ok (.iload_n 2, 1) from by decide +kernel) rfl
theorem m11_6 : M11 6 ls st H Q = M11 7 ls (.int 1 :: st) H Q := w_con (show decode kb11 6 = .ok (.iconst 1, 1) from by decide +kernel) rfl (by decide)
theorem m11_7 : M11 7 ls (.int y :: .int x :: st) H Q = if x < y then M11 10 ls st H Q else M11 14 ls st H Q := w_icmpN (show decode kb11 7 = .ok (.if_icmp .ge 7, 3) from by decide +kernel) (i_ge x y) rfl
theorem m11_10 : M11 10 ls st H Q = M11 13 ls (.int 841 :: st) H Q := w_con (show decode kb11 10 = .ok (.sipush 841, 3) from by decide +kernel) rfl (by decide)
theorem m11_13 : M11 13 ls (.int z :: st) H Q = Q (some (.int z)) H := w_iret (show decode kb11 13 = .ok (.ireturn, 1) from by decide +kernel) rfl
theorem m11_14 : M11 14 [.val (.ref r), l1, l2, l3] st H Q = M11 15 [.val (.ref r), l1, l2, l3] (.ref r :: st) H Q := w_x (show decode kb11 14 = .ok (.aload_n 0, 1) from by decide +kernel) rfl
theorem m11_15 : M11 15 [l0, .val (.int v), l2, l3] st H Q = M11 16 [l0, .val (.int v), l2, l3] (.int v :: st) H Q := w_x (show decode kb11 15 = .ok (.iload_n 1, 1) from by decide +kernel) rfl
theorem m11_16 : M11 16 [l0, l1, .val (.int v), l3] st H Q = M11 17 [l0, l1, .val (.int v), l3] (.int v :: st) H Q := w_x (show decode kb11 16 = .ok (.iload_n 2, 1) from by decide +kernel) rfl
theorem cr11_126 : vR tables_1 dn y11 126 = some (true, y12, prog_1_method_9_code, 7, (some .int), 2, 0) := pR_of (cR_of (by decide +kernel) rc_12 dn_12 dn_11 (sig := ⟨[.int, .int], some .int⟩) (by decide +kernel) (by decide +kernel) rfl rfl) (by decide +kernel) (by decide +kernel)
theorem m11_17 (a0 : Int32) (a1 : Int32) : M11 17 ls [.int a1, .int a0, .ref b] (put b pre s A post) Q = M12 0 [.val (.ref b), .val (.int a0), .val (.int a1), .unset, .unset, .unset, .unset] [] (put b pre s A post) (fun v H1 => M11 20 ls (v.toList ++ []) H1 Q) := w_virt (as := [.int a1, .int a0]) (rest := []) (a := b) (show decode kb11 17 = .ok (.invokevirtual 126, 3) from by decide +kernel) cr11_126 put_o rfl rfl (Nat.le_of_ble_eq_true rfl) (by show 3 ≤ 7; omega) rfl
theorem m11_20u : M11 20 [l0, l1, l2, .unset] ((.int v) :: st) H Q = M11 21 [l0, l1, l2, .val (.int v)] st H Q := w_st (i := 3) (p := isI) (show decode kb11 20 = .ok (.istore_n 3, 1) from by decide +kernel) rfl rfl rfl rfl rfl rfl
theorem m11_21 : M11 21 [l0, l1, l2, .val (.int v)] st H Q = M11 22 [l0, l1, l2, .val (.int v)] (.int v :: st) H Q := w_x (show decode kb11 21 = .ok (.iload_n 3, 1) from by decide +kernel) rfl
theorem m11_22 : M11 22 ls st H Q = M11 23 ls (.int 1 :: st) H Q := w_con (show decode kb11 22 = .ok (.iconst 1, 1) from by decide +kernel) rfl (by decide)
theorem m11_23 : M11 23 ls (.int y :: .int x :: st) H Q = if x < y then M11 26 ls st H Q else M11 30 ls st H Q := w_icmpN (show decode kb11 23 = .ok (.if_icmp .ge 7, 3) from by decide +kernel) (i_ge x y) rfl
theorem m11_26 : M11 26 ls st H Q = M11 29 ls (.int 841 :: st) H Q := w_con (show decode kb11 26 = .ok (.sipush 841, 3) from by decide +kernel) rfl (by decide)
theorem m11_29 : M11 29 ls (.int z :: st) H Q = Q (some (.int z)) H := w_iret (show decode kb11 29 = .ok (.ireturn, 1) from by decide +kernel) rfl
theorem m11_30 : M11 30 [l0, .val (.int v), l2, l3] st H Q = M11 31 [l0, .val (.int v), l2, l3] (.int v :: st) H Q := w_x (show decode kb11 30 = .ok (.iload_n 1, 1) from by decide +kernel) rfl
theorem m11_31 : M11 31 [l0, l1, l2, .val (.int v)] st H Q = M11 32 [l0, l1, l2, .val (.int v)] (.int v :: st) H Q := w_x (show decode kb11 31 = .ok (.iload_n 3, 1) from by decide +kernel) rfl
theorem m11_32 : M11 32 ls (.int y :: .int x :: st) H Q = (y ≠ 0 ∧ M11 33 ls (.int (x / y) :: st) H Q) := w_div (f := fun x y => x / y) (show decode kb11 32 = .ok (.idiv, 1) from by decide +kernel) (fun _ => rfl) rfl rfl
theorem m11_33 : M11 33 [l0, l1, .val (.int v), l3] st H Q = M11 34 [l0, l1, .val (.int v), l3] (.int v :: st) H Q := w_x (show decode kb11 33 = .ok (.iload_n 2, 1) from by decide +kernel) rfl
theorem m11_34 : M11 34 ls (.int y :: .int x :: st) H Q = M11 35 ls (.int (x * y) :: st) H Q := w_x (show decode kb11 34 = .ok (.imul, 1) from by decide +kernel) rfl
theorem m11_35 : M11 35 ls (.int z :: st) H Q = Q (some (.int z)) H := w_iret (show decode kb11 35 = .ok (.ireturn, 1) from by decide +kernel) rfl
theorem m12_0 : M12 0 [l0, .val (.int v), l2, l3, l4, l5, l6] st H Q = M12 1 [l0, .val (.int v), l2, l3, l4, l5, l6] (.int v :: st) H Q := w_x (show decode kb12 0 = .ok (.iload_n 1, 1) from by decide +kernel) rfl
theorem m12_1u : M12 1 [l0, l1, l2, .unset, l4, l5, l6] ((.int v) :: st) H Q = M12 2 [l0, l1, l2, .val (.int v), l4, l5, l6] st H Q := w_st (i := 3) (p := isI) (show decode kb12 1 = .ok (.istore_n 3, 1) from by decide +kernel) rfl rfl rfl rfl rfl rfl
theorem m12_2 : M12 2 [l0, l1, .val (.int v), l3, l4, l5, l6] st H Q = M12 3 [l0, l1, .val (.int v), l3, l4, l5, l6] (.int v :: st) H Q := w_x (show decode kb12 2 = .ok (.iload_n 2, 1) from by decide +kernel) rfl
theorem m12_3u : M12 3 [l0, l1, l2, l3, .unset, l5, l6] ((.int v) :: st) H Q = M12 5 [l0, l1, l2, l3, .val (.int v), l5, l6] st H Q := w_st (i := 4) (p := isI) (show decode kb12 3 = .ok (.istore 4, 2) from by decide +kernel) rfl rfl rfl rfl rfl rfl
theorem m12_5 : M12 5 ls st H Q = M12 6 ls (.int 0 :: st) H Q := w_con (show decode kb12 5 = .ok (.iconst 0, 1) from by decide +kernel) rfl (by decide)
theorem m12_6u : M12 6 [l0, l1, l2, l3, l4, .unset, l6] ((.int v) :: st) H Q = M12 8 [l0, l1, l2, l3, l4, .val (.int v), l6] st H Q := w_st (i := 5) (p := isI) (show decode kb12 6 = .ok (.istore 5, 2) from by decide +kernel) rfl rfl rfl rfl rfl rfl
theorem m12_8 : M12 8 [l0, l1, l2, l3, l4, .val (.int v), l6] st H Q = M12 10 [l0, l1, l2, l3, l4, .val (.int v), l6] (.int v :: st) H Q := w_x (show decode kb12 8 = .ok (.iload 5, 2) from by decide +kernel) rfl
theorem m12_10 : M12 10 ls st H Q = M12 12 ls (.int 64 :: st) H Q := w_con (show decode kb12 10 = .ok (.bipush 64, 2) from by decide +kernel) rfl (by decide)
theorem m12_12 : M12 12 ls (.int y :: .int x :: st) H Q = if x < y then M12 15 ls st H Q else M12 42 ls st H Q := w_icmpN (show decode kb12 12 = .ok (.if_icmp .ge 30, 3) from by decide +kernel) (i_ge x y) rfl
theorem m12_15 : M12 15 [l0, l1, l2, l3, .val (.int v), l5, l6] st H Q = M12 17 [l0, l1, l2, l3, .val (.int v), l5, l6] (.int v :: st) H Q := w_x (show decode kb12 15 = .ok (.iload 4, 2) from by decide +kernel) rfl
theorem m12_17 : M12 17 ls (.int x :: st) H Q = if x = 0 then M12 20 ls st H Q else M12 23 ls st H Q := w_ifN (show decode kb12 17 = .ok (.ifCond .ne 6, 3) from by decide +kernel) (z_ne x) rfl
theorem m12_20 : M12 20 ls st H Q = M12 42 ls st H Q := w_x (show decode kb12 20 = .ok (.goto 22, 3) from by decide +kernel) rfl
theorem m12_23 : M12 23 [l0, l1, l2, .val (.int v), l4, l5, l6] st H Q = M12 24 [l0, l1, l2, .val (.int v), l4, l5, l6] (.int v :: st) H Q := w_x (show decode kb12 23 = .ok (.iload_n 3, 1) from by decide +kernel) rfl
theorem m12_24 : M12 24 [l0, l1, l2, l3, .val (.int v), l5, l6] st H Q = M12 26 [l0, l1, l2, l3, .val (.int v), l5, l6] (.int v :: st) H Q := w_x (show decode kb12 24 = .ok (.iload 4, 2) from by decide +kernel) rfl
theorem m12_26 : M12 26 ls (.int y :: .int x :: st) H Q = (y ≠ 0 ∧ M12 27 ls (.int (x % y) :: st) H Q) := w_div (f := fun x y => x % y) (show decode kb12 26 = .ok (.irem, 1) from by decide +kernel) (fun _ => rfl) rfl rfl
theorem m12_27u : M12 27 [l0, l1, l2, l3, l4, l5, .unset] ((.int v) :: st) H Q = M12 29 [l0, l1, l2, l3, l4, l5, .val (.int v)] st H Q := w_st (i := 6) (p := isI) (show decode kb12 27 = .ok (.istore 6, 2) from by decide +kernel) rfl rfl rfl rfl rfl rfl
theorem m12_27i : M12 27 [l0, l1, l2, l3, l4, l5, .val (.int z)] ((.int v) :: st) H Q = M12 29 [l0, l1, l2, l3, l4, l5, .val (.int v)] st H Q := w_st (i := 6) (p := isI) (show decode kb12 27 = .ok (.istore 6, 2) from by decide +kernel) rfl rfl rfl rfl rfl rfl
theorem m12_27r : M12 27 [l0, l1, l2, l3, l4, l5, .val (.ref q)] ((.int v) :: st) H Q = M12 29 [l0, l1, l2, l3, l4, l5, .val (.int v)] st H Q := w_st (i := 6) (p := isI) (show decode kb12 27 = .ok (.istore 6, 2) from by decide +kernel) rfl rfl rfl rfl rfl rfl
theorem m12_29 : M12 29 [l0, l1, l2, l3, .val (.int v), l5, l6] st H Q = M12 31 [l0, l1, l2, l3, .val (.int v), l5, l6] (.int v :: st) H Q := w_x (show decode kb12 29 = .ok (.iload 4, 2) from by decide +kernel) rfl
theorem m12_31i : M12 31 [l0, l1, l2, .val (.int z), l4, l5, l6] ((.int v) :: st) H Q = M12 32 [l0, l1, l2, .val (.int v), l4, l5, l6] st H Q := w_st (i := 3) (p := isI) (show decode kb12 31 = .ok (.istore_n 3, 1) from by decide +kernel) rfl rfl rfl rfl rfl rfl
theorem m12_32 : M12 32 [l0, l1, l2, l3, l4, l5, .val (.int v)] st H Q = M12 34 [l0, l1, l2, l3, l4, l5, .val (.int v)] (.int v :: st) H Q := w_x (show decode kb12 32 = .ok (.iload 6, 2) from by decide +kernel) rfl
theorem m12_34i : M12 34 [l0, l1, l2, l3, .val (.int z), l5, l6] ((.int v) :: st) H Q = M12 36 [l0, l1, l2, l3, .val (.int v), l5, l6] st H Q := w_st (i := 4) (p := isI) (show decode kb12 34 = .ok (.istore 4, 2) from by decide +kernel) rfl rfl rfl rfl rfl rfl
theorem m12_36 : M12 36 [l0, l1, l2, l3, l4, .val (.int v), l6] st H Q = M12 39 [l0, l1, l2, l3, l4, .val (.int (v + 1)), l6] st H Q := w_iinc (show decode kb12 36 = .ok (.iinc 5 1, 3) from by decide +kernel) rfl (by decide) rfl
theorem m12_39 : M12 39 ls st H Q = M12 8 ls st H Q := w_x (show decode kb12 39 = .ok (.goto (-31), 3) from by decide +kernel) rfl
theorem m12_42 : M12 42 [l0, l1, l2, .val (.int v), l4, l5, l6] st H Q = M12 43 [l0, l1, l2, .val (.int v), l4, l5, l6] (.int v :: st) H Q := w_x (show decode kb12 42 = .ok (.iload_n 3, 1) from by decide +kernel) rfl
theorem m12_43 : M12 43 ls (.int z :: st) H Q = Q (some (.int z)) H := w_iret (show decode kb12 43 = .ok (.ireturn, 1) from by decide +kernel) rfl
theorem m13_0 : M13 0 [.val (.ref r), l1, l2] st H Q = M13 1 [.val (.ref r), l1, l2] (.ref r :: st) H Q := w_x (show decode kb13 0 = .ok (.aload_n 0, 1) from by decide +kernel) rfl
theorem m13_1 : M13 1 ls (.ref b :: st) (put b pre s A post) Q = M13 4 ls (.ref (b + 1) :: st) (put b pre s A post) Q := w_get (show decode kb13 1 = .ok (.getfield 7, 3) from by decide +kernel) gf_7 put_o rfl
theorem m13_4 : M13 4 [l0, .val (.int v), l2] st H Q = M13 5 [l0, .val (.int v), l2] (.int v :: st) H Q := w_x (show decode kb13 4 = .ok (.iload_n 1, 1) from by decide +kernel) rfl
theorem m13_5 : M13 5 [.val (.ref r), l1, l2] st H Q = M13 6 [.val (.ref r), l1, l2] (.ref r :: st) H Q := w_x (show decode kb13 5 = .ok (.aload_n 0, 1) from by decide +kernel) rfl
theorem m13_6 : M13 6 ls (.ref b :: st) (put b pre s A post) Q = M13 9 ls (.int (s 5) :: st) (put b pre s A post) Q := w_get (show decode kb13 6 = .ok (.getfield 95, 3) from by decide +kernel) gf_95 put_o rfl
theorem m13_9  : M13 9 ls (.int v :: .int j :: .ref (b + 1) :: st) (put b pre s A post) Q = (inB j (A 0) ∧ M13 10 ls st (put b pre s (ou A 0 (setA (A 0) j v)) post) Q) := w_ist (show decode kb13 9 = .ok (.iastore, 1) from by decide +kernel) rfl put_a0 (Nat.zero_le _) rfl put_w0
theorem m13_10 : M13 10 [.val (.ref r), l1, l2] st H Q = M13 11 [.val (.ref r), l1, l2] (.ref r :: st) H Q := w_x (show decode kb13 10 = .ok (.aload_n 0, 1) from by decide +kernel) rfl
theorem m13_11 : M13 11 ls (.ref b :: st) (put b pre s A post) Q = M13 14 ls (.ref (b + 2) :: st) (put b pre s A post) Q := w_get (show decode kb13 11 = .ok (.getfield 13, 3) from by decide +kernel) gf_13 put_o rfl
theorem m13_14 : M13 14 [l0, .val (.int v), l2] st H Q = M13 15 [l0, .val (.int v), l2] (.int v :: st) H Q := w_x (show decode kb13 14 = .ok (.iload_n 1, 1) from by decide +kernel) rfl
theorem m13_15 : M13 15 [.val (.ref r), l1, l2] st H Q = M13 16 [.val (.ref r), l1, l2] (.ref r :: st) H Q := w_x (show decode kb13 15 = .ok (.aload_n 0, 1) from by decide +kernel) rfl
theorem m13_16 : M13 16 ls (.ref b :: st) (put b pre s A post) Q = M13 19 ls (.int (s 6) :: st) (put b pre s A post) Q := w_get (show decode kb13 16 = .ok (.getfield 98, 3) from by decide +kernel) gf_98 put_o rfl
theorem m13_19  : M13 19 ls (.int v :: .int j :: .ref (b + 2) :: st) (put b pre s A post) Q = (inB j (A 1) ∧ M13 20 ls st (put b pre s (ou A 1 (setA (A 1) j v)) post) Q) := w_ist (show decode kb13 19 = .ok (.iastore, 1) from by decide +kernel) rfl put_a1 (Nat.zero_le _) rfl put_w1
theorem m13_20 : M13 20 [.val (.ref r), l1, l2] st H Q = M13 21 [.val (.ref r), l1, l2] (.ref r :: st) H Q := w_x (show decode kb13 20 = .ok (.aload_n 0, 1) from by decide +kernel) rfl
theorem m13_21 : M13 21 ls (.ref b :: st) (put b pre s A post) Q = M13 24 ls (.ref (b + 3) :: st) (put b pre s A post) Q := w_get (show decode kb13 21 = .ok (.getfield 16, 3) from by decide +kernel) gf_16 put_o rfl
theorem m13_24 : M13 24 [l0, .val (.int v), l2] st H Q = M13 25 [l0, .val (.int v), l2] (.int v :: st) H Q := w_x (show decode kb13 24 = .ok (.iload_n 1, 1) from by decide +kernel) rfl
theorem m13_25 : M13 25 [.val (.ref r), l1, l2] st H Q = M13 26 [.val (.ref r), l1, l2] (.ref r :: st) H Q := w_x (show decode kb13 25 = .ok (.aload_n 0, 1) from by decide +kernel) rfl
theorem m13_26 : M13 26 ls (.ref b :: st) (put b pre s A post) Q = M13 29 ls (.int (s 7) :: st) (put b pre s A post) Q := w_get (show decode kb13 26 = .ok (.getfield 101, 3) from by decide +kernel) gf_101 put_o rfl
theorem m13_29  : M13 29 ls (.int v :: .int j :: .ref (b + 3) :: st) (put b pre s A post) Q = (inB j (A 2) ∧ M13 30 ls st (put b pre s (ou A 2 (setA (A 2) j v)) post) Q) := w_ist (show decode kb13 29 = .ok (.iastore, 1) from by decide +kernel) rfl put_a2 (Nat.zero_le _) rfl put_w2
theorem m13_30 : M13 30 [.val (.ref r), l1, l2] st H Q = M13 31 [.val (.ref r), l1, l2] (.ref r :: st) H Q := w_x (show decode kb13 30 = .ok (.aload_n 0, 1) from by decide +kernel) rfl
theorem m13_31 : M13 31 ls (.ref b :: st) (put b pre s A post) Q = M13 34 ls (.ref (b + 4) :: st) (put b pre s A post) Q := w_get (show decode kb13 31 = .ok (.getfield 19, 3) from by decide +kernel) gf_19 put_o rfl
theorem m13_34 : M13 34 [l0, .val (.int v), l2] st H Q = M13 35 [l0, .val (.int v), l2] (.int v :: st) H Q := w_x (show decode kb13 34 = .ok (.iload_n 1, 1) from by decide +kernel) rfl
theorem m13_35 : M13 35 [.val (.ref r), l1, l2] st H Q = M13 36 [.val (.ref r), l1, l2] (.ref r :: st) H Q := w_x (show decode kb13 35 = .ok (.aload_n 0, 1) from by decide +kernel) rfl
theorem m13_36 : M13 36 ls (.ref b :: st) (put b pre s A post) Q = M13 39 ls (.int (s 8) :: st) (put b pre s A post) Q := w_get (show decode kb13 36 = .ok (.getfield 104, 3) from by decide +kernel) gf_104 put_o rfl
theorem m13_39  : M13 39 ls (.int v :: .int j :: .ref (b + 4) :: st) (put b pre s A post) Q = (inB j (A 3) ∧ M13 40 ls st (put b pre s (ou A 3 (setA (A 3) j v)) post) Q) := w_ist (show decode kb13 39 = .ok (.iastore, 1) from by decide +kernel) rfl put_a3 (Nat.zero_le _) rfl put_w3
theorem m13_40 : M13 40 ls st H Q = M13 41 ls (.int 0 :: st) H Q := w_con (show decode kb13 40 = .ok (.iconst 0, 1) from by decide +kernel) rfl (by decide)
theorem m13_41u : M13 41 [l0, l1, .unset] ((.int v) :: st) H Q = M13 42 [l0, l1, .val (.int v)] st H Q := w_st (i := 2) (p := isI) (show decode kb13 41 = .ok (.istore_n 2, 1) from by decide +kernel) rfl rfl rfl rfl rfl rfl
theorem m13_42 : M13 42 [l0, l1, .val (.int v)] st H Q = M13 43 [l0, l1, .val (.int v)] (.int v :: st) H Q := w_x (show decode kb13 42 = .ok (.iload_n 2, 1) from by decide +kernel) rfl
theorem m13_43 : M13 43 ls st H Q = M13 44 ls (.int 4 :: st) H Q := w_con (show decode kb13 43 = .ok (.iconst 4, 1) from by decide +kernel) rfl (by decide)
theorem m13_44 : M13 44 ls (.int y :: .int x :: st) H Q = if x < y then M13 47 ls st H Q else M13 85 ls st H Q := w_icmpN (show decode kb13 44 = .ok (.if_icmp .ge 41, 3) from by decide +kernel) (i_ge x y) rfl
theorem m13_47 : M13 47 [.val (.ref r), l1, l2] st H Q = M13 48 [.val (.ref r), l1, l2] (.ref r :: st) H Q := w_x (show decode kb13 47 = .ok (.aload_n 0, 1) from by decide +kernel) rfl
theorem m13_48 : M13 48 ls (.ref b :: st) (put b pre s A post) Q = M13 51 ls (.ref (b + 5) :: st) (put b pre s A post) Q := w_get (show decode kb13 48 = .ok (.getfield 22, 3) from by decide +kernel) gf_22 put_o rfl
theorem m13_51 : M13 51 [l0, .val (.int v), l2] st H Q = M13 52 [l0, .val (.int v), l2] (.int v :: st) H Q := w_x (show decode kb13 51 = .ok (.iload_n 1, 1) from by decide +kernel) rfl
theorem m13_52 : M13 52 ls st H Q = M13 53 ls (.int 4 :: st) H Q := w_con (show decode kb13 52 = .ok (.iconst 4, 1) from by decide +kernel) rfl (by decide)
theorem m13_53 : M13 53 ls (.int y :: .int x :: st) H Q = M13 54 ls (.int (x * y) :: st) H Q := w_x (show decode kb13 53 = .ok (.imul, 1) from by decide +kernel) rfl
theorem m13_54 : M13 54 [l0, l1, .val (.int v)] st H Q = M13 55 [l0, l1, .val (.int v)] (.int v :: st) H Q := w_x (show decode kb13 54 = .ok (.iload_n 2, 1) from by decide +kernel) rfl
theorem m13_55 : M13 55 ls (.int y :: .int x :: st) H Q = M13 56 ls (.int (x + y) :: st) H Q := w_x (show decode kb13 55 = .ok (.iadd, 1) from by decide +kernel) rfl
theorem m13_56 : M13 56 [.val (.ref r), l1, l2] st H Q = M13 57 [.val (.ref r), l1, l2] (.ref r :: st) H Q := w_x (show decode kb13 56 = .ok (.aload_n 0, 1) from by decide +kernel) rfl
theorem m13_57 : M13 57 ls (.ref b :: st) (put b pre s A post) Q = M13 60 ls (.ref (b + 10) :: st) (put b pre s A post) Q := w_get (show decode kb13 57 = .ok (.getfield 37, 3) from by decide +kernel) gf_37 put_o rfl
theorem m13_60 : M13 60 [l0, l1, .val (.int v)] st H Q = M13 61 [l0, l1, .val (.int v)] (.int v :: st) H Q := w_x (show decode kb13 60 = .ok (.iload_n 2, 1) from by decide +kernel) rfl
theorem m13_61  : M13 61 ls (.int j :: .ref (b + 10) :: st) (put b pre s A post) Q = (inB j (A 9) ∧ M13 62 ls (.int (getA (A 9) j) :: st) (put b pre s A post) Q) := w_ild (show decode kb13 61 = .ok (.iaload, 1) from by decide +kernel) rfl put_a9
theorem m13_62  : M13 62 ls (.int v :: .int j :: .ref (b + 5) :: st) (put b pre s A post) Q = (inB j (A 4) ∧ M13 63 ls st (put b pre s (ou A 4 (setA (A 4) j v)) post) Q) := w_ist (show decode kb13 62 = .ok (.iastore, 1) from by decide +kernel) rfl put_a4 (Nat.zero_le _) rfl put_w4
theorem m13_63 : M13 63 [.val (.ref r), l1, l2] st H Q = M13 64 [.val (.ref r), l1, l2] (.ref r :: st) H Q := w_x (show decode kb13 63 = .ok (.aload_n 0, 1) from by decide +kernel) rfl
theorem m13_64 : M13 64 ls (.ref b :: st) (put b pre s A post) Q = M13 67 ls (.ref (b + 6) :: st) (put b pre s A post) Q := w_get (show decode kb13 64 = .ok (.getfield 25, 3) from by decide +kernel) gf_25 put_o rfl
theorem m13_67 : M13 67 [l0, .val (.int v), l2] st H Q = M13 68 [l0, .val (.int v), l2] (.int v :: st) H Q := w_x (show decode kb13 67 = .ok (.iload_n 1, 1) from by decide +kernel) rfl
theorem m13_68 : M13 68 ls st H Q = M13 69 ls (.int 4 :: st) H Q := w_con (show decode kb13 68 = .ok (.iconst 4, 1) from by decide +kernel) rfl (by decide)
theorem m13_69 : M13 69 ls (.int y :: .int x :: st) H Q = M13 70 ls (.int (x * y) :: st) H Q := w_x (show decode kb13 69 = .ok (.imul, 1) from by decide +kernel) rfl
theorem m13_70 : M13 70 [l0, l1, .val (.int v)] st H Q = M13 71 [l0, l1, .val (.int v)] (.int v :: st) H Q := w_x (show decode kb13 70 = .ok (.iload_n 2, 1) from by decide +kernel) rfl
theorem m13_71 : M13 71 ls (.int y :: .int x :: st) H Q = M13 72 ls (.int (x + y) :: st) H Q := w_x (show decode kb13 71 = .ok (.iadd, 1) from by decide +kernel) rfl
theorem m13_72 : M13 72 [.val (.ref r), l1, l2] st H Q = M13 73 [.val (.ref r), l1, l2] (.ref r :: st) H Q := w_x (show decode kb13 72 = .ok (.aload_n 0, 1) from by decide +kernel) rfl
theorem m13_73 : M13 73 ls (.ref b :: st) (put b pre s A post) Q = M13 76 ls (.ref (b + 11) :: st) (put b pre s A post) Q := w_get (show decode kb13 73 = .ok (.getfield 40, 3) from by decide +kernel) gf_40 put_o rfl
theorem m13_76 : M13 76 [l0, l1, .val (.int v)] st H Q = M13 77 [l0, l1, .val (.int v)] (.int v :: st) H Q := w_x (show decode kb13 76 = .ok (.iload_n 2, 1) from by decide +kernel) rfl
theorem m13_77  : M13 77 ls (.int j :: .ref (b + 11) :: st) (put b pre s A post) Q = (inB j (A 10) ∧ M13 78 ls (.int (getA (A 10) j) :: st) (put b pre s A post) Q) := w_ild (show decode kb13 77 = .ok (.iaload, 1) from by decide +kernel) rfl put_a10
theorem m13_78  : M13 78 ls (.int v :: .int j :: .ref (b + 6) :: st) (put b pre s A post) Q = (inB j (A 5) ∧ M13 79 ls st (put b pre s (ou A 5 (setA (A 5) j v)) post) Q) := w_ist (show decode kb13 78 = .ok (.iastore, 1) from by decide +kernel) rfl put_a5 (Nat.zero_le _) rfl put_w5
theorem m13_79 : M13 79 [l0, l1, .val (.int v)] st H Q = M13 82 [l0, l1, .val (.int (v + 1))] st H Q := w_iinc (show decode kb13 79 = .ok (.iinc 2 1, 3) from by decide +kernel) rfl (by decide) rfl
theorem m13_82 : M13 82 ls st H Q = M13 42 ls st H Q := w_x (show decode kb13 82 = .ok (.goto (-40), 3) from by decide +kernel) rfl
theorem m13_85 : M13 85 ls [] H Q = Q none H := w_vret (show decode kb13 85 = .ok (.return_, 1) from by decide +kernel) rfl
theorem m14_0 : M14 0 [.val (.ref r), l1, l2, l3, l4] st H Q = M14 1 [.val (.ref r), l1, l2, l3, l4] (.ref r :: st) H Q := w_x (show decode kb14 0 = .ok (.aload_n 0, 1) from by decide +kernel) rfl
theorem m14_1 : M14 1 [l0, .val (.int v), l2, l3, l4] st H Q = M14 2 [l0, .val (.int v), l2, l3, l4] (.int v :: st) H Q := w_x (show decode kb14 1 = .ok (.iload_n 1, 1) from by decide +kernel) rfl
theorem cr14_129 : vR tables_1 dn y14 129 = some (true, y15, prog_1_method_12_code, 5, none, 1, 23) := pR_of (cR_of (by decide +kernel) rc_15 dn_15 dn_14 (sig := ⟨[.int], none⟩) (by decide +kernel) (by decide +kernel) rfl rfl) (by decide +kernel) (by decide +kernel)
theorem m14_2 (a0 : Int32) : M14 2 ls [.int a0, .ref b] (put b pre s A post) Q = M15 0 [.val (.ref b), .val (.int a0), .unset, .unset, .unset] [] (put b pre s A post) (fun v H1 => M14 5 ls (v.toList ++ []) H1 Q) := w_virt (as := [.int a0]) (rest := []) (a := b) (show decode kb14 2 = .ok (.invokevirtual 129, 3) from by decide +kernel) cr14_129 put_o rfl rfl (Nat.le_of_ble_eq_true rfl) (by show 2 ≤ 5; omega) rfl
theorem m14_5 : M14 5 ls st H Q = M14 6 ls (.int 0 :: st) H Q := w_con (show decode kb14 5 = .ok (.iconst 0, 1) from by decide +kernel) rfl (by decide)
theorem m14_6u : M14 6 [l0, l1, .unset, l3, l4] ((.int v) :: st) H Q = M14 7 [l0, l1, .val (.int v), l3, l4] st H Q := w_st (i := 2) (p := isI) (show decode kb14 6 = .ok (.istore_n 2, 1) from by decide +kernel) rfl rfl rfl rfl rfl rfl
theorem m14_7 : M14 7 [l0, l1, .val (.int v), l3, l4] st H Q = M14 8 [l0, l1, .val (.int v), l3, l4] (.int v :: st) H Q := w_x (show decode kb14 7 = .ok (.iload_n 2, 1) from by decide +kernel) rfl
theorem m14_8 : M14 8 [l0, .val (.int v), l2, l3, l4] st H Q = M14 9 [l0, .val (.int v), l2, l3, l4] (.int v :: st) H Q := w_x (show decode kb14 8 = .ok (.iload_n 1, 1) from by decide +kernel) rfl
theorem m14_9 : M14 9 ls (.int y :: .int x :: st) H Q = if x < y then M14 12 ls st H Q else M14 56 ls st H Q := w_icmpN (show decode kb14 9 = .ok (.if_icmp .ge 47, 3) from by decide +kernel) (i_ge x y) rfl
theorem m14_12 : M14 12 [.val (.ref r), l1, l2, l3, l4] st H Q = M14 13 [.val (.ref r), l1, l2, l3, l4] (.ref r :: st) H Q := w_x (show decode kb14 12 = .ok (.aload_n 0, 1) from by decide +kernel) rfl
theorem m14_13 : M14 13 [l0, l1, .val (.int v), l3, l4] st H Q = M14 14 [l0, l1, .val (.int v), l3, l4] (.int v :: st) H Q := w_x (show decode kb14 13 = .ok (.iload_n 2, 1) from by decide +kernel) rfl
theorem m14_14 : M14 14 [l0, .val (.int v), l2, l3, l4] st H Q = M14 15 [l0, .val (.int v), l2, l3, l4] (.int v :: st) H Q := w_x (show decode kb14 14 = .ok (.iload_n 1, 1) from by decide +kernel) rfl
theorem cr14_132 : vR tables_1 dn y14 132 = some (true, y16, prog_1_method_13_code, 8, (some .int), 2, 20) := pR_of (cR_of (by decide +kernel) rc_16 dn_16 dn_14 (sig := ⟨[.int, .int], some .int⟩) (by decide +kernel) (by decide +kernel) rfl rfl) (by decide +kernel) (by decide +kernel)
theorem m14_15 (a0 : Int32) (a1 : Int32) : M14 15 ls [.int a1, .int a0, .ref b] (put b pre s A post) Q = M16 0 [.val (.ref b), .val (.int a0), .val (.int a1), .unset, .unset, .unset, .unset, .unset] [] (put b pre s A post) (fun v H1 => M14 18 ls (v.toList ++ []) H1 Q) := w_virt (as := [.int a1, .int a0]) (rest := []) (a := b) (show decode kb14 15 = .ok (.invokevirtual 132, 3) from by decide +kernel) cr14_132 put_o rfl rfl (Nat.le_of_ble_eq_true rfl) (by show 3 ≤ 8; omega) rfl
theorem m14_18u : M14 18 [l0, l1, l2, .unset, l4] ((.int v) :: st) H Q = M14 19 [l0, l1, l2, .val (.int v), l4] st H Q := w_st (i := 3) (p := isI) (show decode kb14 18 = .ok (.istore_n 3, 1) from by decide +kernel) rfl rfl rfl rfl rfl rfl
theorem m14_18i : M14 18 [l0, l1, l2, .val (.int z), l4] ((.int v) :: st) H Q = M14 19 [l0, l1, l2, .val (.int v), l4] st H Q := w_st (i := 3) (p := isI) (show decode kb14 18 = .ok (.istore_n 3, 1) from by decide +kernel) rfl rfl rfl rfl rfl rfl
theorem m14_18r : M14 18 [l0, l1, l2, .val (.ref q), l4] ((.int v) :: st) H Q = M14 19 [l0, l1, l2, .val (.int v), l4] st H Q := w_st (i := 3) (p := isI) (show decode kb14 18 = .ok (.istore_n 3, 1) from by decide +kernel) rfl rfl rfl rfl rfl rfl
theorem m14_19 : M14 19 [.val (.ref r), l1, l2, l3, l4] st H Q = M14 20 [.val (.ref r), l1, l2, l3, l4] (.ref r :: st) H Q := w_x (show decode kb14 19 = .ok (.aload_n 0, 1) from by decide +kernel) rfl
theorem m14_20 : M14 20 ls (.ref b :: st) (put b pre s A post) Q = M14 23 ls (.ref (b + 13) :: st) (put b pre s A post) Q := w_get (show decode kb14 20 = .ok (.getfield 46, 3) from by decide +kernel) gf_46 put_o rfl
theorem m14_23 : M14 23 [l0, l1, .val (.int v), l3, l4] st H Q = M14 24 [l0, l1, .val (.int v), l3, l4] (.int v :: st) H Q := w_x (show decode kb14 23 = .ok (.iload_n 2, 1) from by decide +kernel) rfl
theorem m14_24 : M14 24 [l0, l1, l2, .val (.int v), l4] st H Q = M14 25 [l0, l1, l2, .val (.int v), l4] (.int v :: st) H Q := w_x (show decode kb14 24 = .ok (.iload_n 3, 1) from by decide +kernel) rfl
theorem m14_25  : M14 25 ls (.int v :: .int j :: .ref (b + 13) :: st) (put b pre s A post) Q = (inB j (A 12) ∧ M14 26 ls st (put b pre s (ou A 12 (setA (A 12) j v)) post) Q) := w_ist (show decode kb14 25 = .ok (.iastore, 1) from by decide +kernel) rfl put_a12 (Nat.zero_le _) rfl put_w12
theorem m14_26 : M14 26 [.val (.ref r), l1, l2, l3, l4] st H Q = M14 27 [.val (.ref r), l1, l2, l3, l4] (.ref r :: st) H Q := w_x (show decode kb14 26 = .ok (.aload_n 0, 1) from by decide +kernel) rfl
theorem m14_27 : M14 27 [l0, l1, .val (.int v), l3, l4] st H Q = M14 28 [l0, l1, .val (.int v), l3, l4] (.int v :: st) H Q := w_x (show decode kb14 27 = .ok (.iload_n 2, 1) from by decide +kernel) rfl
theorem m14_28 : M14 28 [l0, .val (.int v), l2, l3, l4] st H Q = M14 29 [l0, .val (.int v), l2, l3, l4] (.int v :: st) H Q := w_x (show decode kb14 28 = .ok (.iload_n 1, 1) from by decide +kernel) rfl
theorem m14_29 : M14 29 [l0, l1, l2, .val (.int v), l4] st H Q = M14 30 [l0, l1, l2, .val (.int v), l4] (.int v :: st) H Q := w_x (show decode kb14 29 = .ok (.iload_n 3, 1) from by decide +kernel) rfl
theorem cr14_135 : vR tables_1 dn y14 135 = some (true, y17, prog_1_method_14_code, 8, (some .int), 3, 0) := pR_of (cR_of (by decide +kernel) rc_17 dn_17 dn_14 (sig := ⟨[.int, .int, .int], some .int⟩) (by decide +kernel) (by decide +kernel) rfl rfl) (by decide +kernel) (by decide +kernel)
theorem m14_30 (a0 : Int32) (a1 : Int32) (a2 : Int32) : M14 30 ls [.int a2, .int a1, .int a0, .ref b] (put b pre s A post) Q = M17 0 [.val (.ref b), .val (.int a0), .val (.int a1), .val (.int a2), .unset, .unset, .unset, .unset] [] (put b pre s A post) (fun v H1 => M14 33 ls (v.toList ++ []) H1 Q) := w_virt (as := [.int a2, .int a1, .int a0]) (rest := []) (a := b) (show decode kb14 30 = .ok (.invokevirtual 135, 3) from by decide +kernel) cr14_135 put_o rfl rfl (Nat.le_of_ble_eq_true rfl) (by show 4 ≤ 8; omega) rfl
theorem m14_33u : M14 33 [l0, l1, l2, l3, .unset] ((.int v) :: st) H Q = M14 35 [l0, l1, l2, l3, .val (.int v)] st H Q := w_st (i := 4) (p := isI) (show decode kb14 33 = .ok (.istore 4, 2) from by decide +kernel) rfl rfl rfl rfl rfl rfl
theorem m14_33i : M14 33 [l0, l1, l2, l3, .val (.int z)] ((.int v) :: st) H Q = M14 35 [l0, l1, l2, l3, .val (.int v)] st H Q := w_st (i := 4) (p := isI) (show decode kb14 33 = .ok (.istore 4, 2) from by decide +kernel) rfl rfl rfl rfl rfl rfl
theorem m14_33r : M14 33 [l0, l1, l2, l3, .val (.ref q)] ((.int v) :: st) H Q = M14 35 [l0, l1, l2, l3, .val (.int v)] st H Q := w_st (i := 4) (p := isI) (show decode kb14 33 = .ok (.istore 4, 2) from by decide +kernel) rfl rfl rfl rfl rfl rfl
theorem m14_35 : M14 35 [l0, l1, l2, l3, .val (.int v)] st H Q = M14 37 [l0, l1, l2, l3, .val (.int v)] (.int v :: st) H Q := w_x (show decode kb14 35 = .ok (.iload 4, 2) from by decide +kernel) rfl
theorem m14_37 : M14 37 ls (.int x :: st) H Q = if x < 0 then M14 40 ls st H Q else M14 42 ls st H Q := w_ifN (show decode kb14 37 = .ok (.ifCond .ge 5, 3) from by decide +kernel) (z_ge x) rfl
theorem m14_40 : M14 40 [l0, l1, .val (.int v), l3, l4] st H Q = M14 41 [l0, l1, .val (.int v), l3, l4] (.int v :: st) H Q := w_x (show decode kb14 40 = .ok (.iload_n 2, 1) from by decide +kernel) rfl
theorem m14_41 : M14 41 ls (.int z :: st) H Q = Q (some (.int z)) H := w_iret (show decode kb14 41 = .ok (.ireturn, 1) from by decide +kernel) rfl
theorem m14_42 : M14 42 [.val (.ref r), l1, l2, l3, l4] st H Q = M14 43 [.val (.ref r), l1, l2, l3, l4] (.ref r :: st) H Q := w_x (show decode kb14 42 = .ok (.aload_n 0, 1) from by decide +kernel) rfl
theorem m14_43 : M14 43 ls (.ref b :: st) (put b pre s A post) Q = M14 46 ls (.ref (b + 14) :: st) (put b pre s A post) Q := w_get (show decode kb14 43 = .ok (.getfield 49, 3) from by decide +kernel) gf_49 put_o rfl
theorem m14_46 : M14 46 [l0, l1, .val (.int v), l3, l4] st H Q = M14 47 [l0, l1, .val (.int v), l3, l4] (.int v :: st) H Q := w_x (show decode kb14 46 = .ok (.iload_n 2, 1) from by decide +kernel) rfl
theorem m14_47 : M14 47 [l0, l1, l2, l3, .val (.int v)] st H Q = M14 49 [l0, l1, l2, l3, .val (.int v)] (.int v :: st) H Q := w_x (show decode kb14 47 = .ok (.iload 4, 2) from by decide +kernel) rfl
theorem m14_49  : M14 49 ls (.int v :: .int j :: .ref (b + 14) :: st) (put b pre s A post) Q = (inB j (A 13) ∧ M14 50 ls st (put b pre s (ou A 13 (setA (A 13) j v)) post) Q) := w_ist (show decode kb14 49 = .ok (.iastore, 1) from by decide +kernel) rfl put_a13 (Nat.zero_le _) rfl put_w13
theorem m14_50 : M14 50 [l0, l1, .val (.int v), l3, l4] st H Q = M14 53 [l0, l1, .val (.int (v + 1)), l3, l4] st H Q := w_iinc (show decode kb14 50 = .ok (.iinc 2 1, 3) from by decide +kernel) rfl (by decide) rfl
theorem m14_53 : M14 53 ls st H Q = M14 7 ls st H Q := w_x (show decode kb14 53 = .ok (.goto (-46), 3) from by decide +kernel) rfl
theorem m14_56 : M14 56 ls st H Q = M14 57 ls (.int (-1) :: st) H Q := w_con (show decode kb14 56 = .ok (.iconst (-1), 1) from by decide +kernel) rfl (by decide)
theorem m14_57 : M14 57 ls (.int z :: st) H Q = Q (some (.int z)) H := w_iret (show decode kb14 57 = .ok (.ireturn, 1) from by decide +kernel) rfl
theorem m15_0 : M15 0 ls st H Q = M15 1 ls (.int 0 :: st) H Q := w_con (show decode kb15 0 = .ok (.iconst 0, 1) from by decide +kernel) rfl (by decide)
theorem m15_1u : M15 1 [l0, l1, .unset, l3, l4] ((.int v) :: st) H Q = M15 2 [l0, l1, .val (.int v), l3, l4] st H Q := w_st (i := 2) (p := isI) (show decode kb15 1 = .ok (.istore_n 2, 1) from by decide +kernel) rfl rfl rfl rfl rfl rfl
theorem m15_2 : M15 2 [l0, l1, .val (.int v), l3, l4] st H Q = M15 3 [l0, l1, .val (.int v), l3, l4] (.int v :: st) H Q := w_x (show decode kb15 2 = .ok (.iload_n 2, 1) from by decide +kernel) rfl
theorem m15_3 : M15 3 ls st H Q = M15 4 ls (.int 4 :: st) H Q := w_con (show decode kb15 3 = .ok (.iconst 4, 1) from by decide +kernel) rfl (by decide)
theorem m15_4 : M15 4 ls (.int y :: .int x :: st) H Q = if x < y then M15 7 ls st H Q else M15 70 ls st H Q := w_icmpN (show decode kb15 4 = .ok (.if_icmp .ge 66, 3) from by decide +kernel) (i_ge x y) rfl
theorem m15_7 : M15 7 ls st H Q = M15 8 ls (.int 0 :: st) H Q := w_con (show decode kb15 7 = .ok (.iconst 0, 1) from by decide +kernel) rfl (by decide)
theorem m15_8u : M15 8 [l0, l1, l2, .unset, l4] ((.int v) :: st) H Q = M15 9 [l0, l1, l2, .val (.int v), l4] st H Q := w_st (i := 3) (p := isI) (show decode kb15 8 = .ok (.istore_n 3, 1) from by decide +kernel) rfl rfl rfl rfl rfl rfl
theorem m15_8i : M15 8 [l0, l1, l2, .val (.int z), l4] ((.int v) :: st) H Q = M15 9 [l0, l1, l2, .val (.int v), l4] st H Q := w_st (i := 3) (p := isI) (show decode kb15 8 = .ok (.istore_n 3, 1) from by decide +kernel) rfl rfl rfl rfl rfl rfl
theorem m15_8r : M15 8 [l0, l1, l2, .val (.ref q), l4] ((.int v) :: st) H Q = M15 9 [l0, l1, l2, .val (.int v), l4] st H Q := w_st (i := 3) (p := isI) (show decode kb15 8 = .ok (.istore_n 3, 1) from by decide +kernel) rfl rfl rfl rfl rfl rfl
theorem m15_9 : M15 9 ls st H Q = M15 10 ls (.int 0 :: st) H Q := w_con (show decode kb15 9 = .ok (.iconst 0, 1) from by decide +kernel) rfl (by decide)
theorem m15_10u : M15 10 [l0, l1, l2, l3, .unset] ((.int v) :: st) H Q = M15 12 [l0, l1, l2, l3, .val (.int v)] st H Q := w_st (i := 4) (p := isI) (show decode kb15 10 = .ok (.istore 4, 2) from by decide +kernel) rfl rfl rfl rfl rfl rfl
theorem m15_10i : M15 10 [l0, l1, l2, l3, .val (.int z)] ((.int v) :: st) H Q = M15 12 [l0, l1, l2, l3, .val (.int v)] st H Q := w_st (i := 4) (p := isI) (show decode kb15 10 = .ok (.istore 4, 2) from by decide +kernel) rfl rfl rfl rfl rfl rfl
theorem m15_10r : M15 10 [l0, l1, l2, l3, .val (.ref q)] ((.int v) :: st) H Q = M15 12 [l0, l1, l2, l3, .val (.int v)] st H Q := w_st (i := 4) (p := isI) (show decode kb15 10 = .ok (.istore 4, 2) from by decide +kernel) rfl rfl rfl rfl rfl rfl
theorem m15_12 : M15 12 [l0, l1, l2, l3, .val (.int v)] st H Q = M15 14 [l0, l1, l2, l3, .val (.int v)] (.int v :: st) H Q := w_x (show decode kb15 12 = .ok (.iload 4, 2) from by decide +kernel) rfl
theorem m15_14 : M15 14 [l0, .val (.int v), l2, l3, l4] st H Q = M15 15 [l0, .val (.int v), l2, l3, l4] (.int v :: st) H Q := w_x (show decode kb15 14 = .ok (.iload_n 1, 1) from by decide +kernel) rfl
theorem m15_15 : M15 15 ls (.int y :: .int x :: st) H Q = if x < y then M15 18 ls st H Q else M15 57 ls st H Q := w_icmpN (show decode kb15 15 = .ok (.if_icmp .ge 42, 3) from by decide +kernel) (i_ge x y) rfl
theorem m15_18 : M15 18 [.val (.ref r), l1, l2, l3, l4] st H Q = M15 19 [.val (.ref r), l1, l2, l3, l4] (.ref r :: st) H Q := w_x (show decode kb15 18 = .ok (.aload_n 0, 1) from by decide +kernel) rfl
theorem m15_19 : M15 19 ls (.ref b :: st) (put b pre s A post) Q = M15 22 ls (.ref (b + 6) :: st) (put b pre s A post) Q := w_get (show decode kb15 19 = .ok (.getfield 25, 3) from by decide +kernel) gf_25 put_o rfl
theorem m15_22 : M15 22 [l0, l1, l2, l3, .val (.int v)] st H Q = M15 24 [l0, l1, l2, l3, .val (.int v)] (.int v :: st) H Q := w_x (show decode kb15 22 = .ok (.iload 4, 2) from by decide +kernel) rfl
theorem m15_24 : M15 24 ls st H Q = M15 25 ls (.int 4 :: st) H Q := w_con (show decode kb15 24 = .ok (.iconst 4, 1) from by decide +kernel) rfl (by decide)
theorem m15_25 : M15 25 ls (.int y :: .int x :: st) H Q = M15 26 ls (.int (x * y) :: st) H Q := w_x (show decode kb15 25 = .ok (.imul, 1) from by decide +kernel) rfl
theorem m15_26 : M15 26 [l0, l1, .val (.int v), l3, l4] st H Q = M15 27 [l0, l1, .val (.int v), l3, l4] (.int v :: st) H Q := w_x (show decode kb15 26 = .ok (.iload_n 2, 1) from by decide +kernel) rfl
theorem m15_27 : M15 27 ls (.int y :: .int x :: st) H Q = M15 28 ls (.int (x + y) :: st) H Q := w_x (show decode kb15 27 = .ok (.iadd, 1) from by decide +kernel) rfl
theorem m15_28  : M15 28 ls (.int j :: .ref (b + 6) :: st) (put b pre s A post) Q = (inB j (A 5) ∧ M15 29 ls (.int (getA (A 5) j) :: st) (put b pre s A post) Q) := w_ild (show decode kb15 28 = .ok (.iaload, 1) from by decide +kernel) rfl put_a5
theorem m15_29 : M15 29 ls (.int x :: st) H Q = if 0 < x then M15 32 ls st H Q else M15 51 ls st H Q := w_ifN (show decode kb15 29 = .ok (.ifCond .le 22, 3) from by decide +kernel) (z_le x) rfl
theorem m15_32 : M15 32 [.val (.ref r), l1, l2, l3, l4] st H Q = M15 33 [.val (.ref r), l1, l2, l3, l4] (.ref r :: st) H Q := w_x (show decode kb15 32 = .ok (.aload_n 0, 1) from by decide +kernel) rfl
theorem m15_33 : M15 33 ls (.ref b :: st) (put b pre s A post) Q = M15 36 ls (.ref (b + 4) :: st) (put b pre s A post) Q := w_get (show decode kb15 33 = .ok (.getfield 19, 3) from by decide +kernel) gf_19 put_o rfl
theorem m15_36 : M15 36 [l0, l1, l2, l3, .val (.int v)] st H Q = M15 38 [l0, l1, l2, l3, .val (.int v)] (.int v :: st) H Q := w_x (show decode kb15 36 = .ok (.iload 4, 2) from by decide +kernel) rfl
theorem m15_38  : M15 38 ls (.int j :: .ref (b + 4) :: st) (put b pre s A post) Q = (inB j (A 3) ∧ M15 39 ls (.int (getA (A 3) j) :: st) (put b pre s A post) Q) := w_ild (show decode kb15 38 = .ok (.iaload, 1) from by decide +kernel) rfl put_a3
theorem m15_39 : M15 39 [l0, l1, l2, .val (.int v), l4] st H Q = M15 40 [l0, l1, l2, .val (.int v), l4] (.int v :: st) H Q := w_x (show decode kb15 39 = .ok (.iload_n 3, 1) from by decide +kernel) rfl
theorem m15_40 : M15 40 ls (.int y :: .int x :: st) H Q = if y < x then M15 43 ls st H Q else M15 51 ls st H Q := w_icmpN (show decode kb15 40 = .ok (.if_icmp .le 11, 3) from by decide +kernel) (i_le x y) rfl
theorem m15_43 : M15 43 [.val (.ref r), l1, l2, l3, l4] st H Q = M15 44 [.val (.ref r), l1, l2, l3, l4] (.ref r :: st) H Q := w_x (show decode kb15 43 = .ok (.aload_n 0, 1) from by decide +kernel) rfl
theorem m15_44 : M15 44 ls (.ref b :: st) (put b pre s A post) Q = M15 47 ls (.ref (b + 4) :: st) (put b pre s A post) Q := w_get (show decode kb15 44 = .ok (.getfield 19, 3) from by decide +kernel) gf_19 put_o rfl
theorem m15_47 : M15 47 [l0, l1, l2, l3, .val (.int v)] st H Q = M15 49 [l0, l1, l2, l3, .val (.int v)] (.int v :: st) H Q := w_x (show decode kb15 47 = .ok (.iload 4, 2) from by decide +kernel) rfl
theorem m15_49  : M15 49 ls (.int j :: .ref (b + 4) :: st) (put b pre s A post) Q = (inB j (A 3) ∧ M15 50 ls (.int (getA (A 3) j) :: st) (put b pre s A post) Q) := w_ild (show decode kb15 49 = .ok (.iaload, 1) from by decide +kernel) rfl put_a3
theorem m15_50i : M15 50 [l0, l1, l2, .val (.int z), l4] ((.int v) :: st) H Q = M15 51 [l0, l1, l2, .val (.int v), l4] st H Q := w_st (i := 3) (p := isI) (show decode kb15 50 = .ok (.istore_n 3, 1) from by decide +kernel) rfl rfl rfl rfl rfl rfl
theorem m15_51 : M15 51 [l0, l1, l2, l3, .val (.int v)] st H Q = M15 54 [l0, l1, l2, l3, .val (.int (v + 1))] st H Q := w_iinc (show decode kb15 51 = .ok (.iinc 4 1, 3) from by decide +kernel) rfl (by decide) rfl
theorem m15_54 : M15 54 ls st H Q = M15 12 ls st H Q := w_x (show decode kb15 54 = .ok (.goto (-42), 3) from by decide +kernel) rfl
theorem m15_57 : M15 57 [.val (.ref r), l1, l2, l3, l4] st H Q = M15 58 [.val (.ref r), l1, l2, l3, l4] (.ref r :: st) H Q := w_x (show decode kb15 57 = .ok (.aload_n 0, 1) from by decide +kernel) rfl
theorem m15_58 : M15 58 ls (.ref b :: st) (put b pre s A post) Q = M15 61 ls (.ref (b + 12) :: st) (put b pre s A post) Q := w_get (show decode kb15 58 = .ok (.getfield 43, 3) from by decide +kernel) gf_43 put_o rfl
theorem m15_61 : M15 61 [l0, l1, .val (.int v), l3, l4] st H Q = M15 62 [l0, l1, .val (.int v), l3, l4] (.int v :: st) H Q := w_x (show decode kb15 61 = .ok (.iload_n 2, 1) from by decide +kernel) rfl
theorem m15_62 : M15 62 [l0, l1, l2, .val (.int v), l4] st H Q = M15 63 [l0, l1, l2, .val (.int v), l4] (.int v :: st) H Q := w_x (show decode kb15 62 = .ok (.iload_n 3, 1) from by decide +kernel) rfl
theorem m15_63  : M15 63 ls (.int v :: .int j :: .ref (b + 12) :: st) (put b pre s A post) Q = (inB j (A 11) ∧ M15 64 ls st (put b pre s (ou A 11 (setA (A 11) j v)) post) Q) := w_ist (show decode kb15 63 = .ok (.iastore, 1) from by decide +kernel) rfl put_a11 (Nat.zero_le _) rfl put_w11
theorem m15_64 : M15 64 [l0, l1, .val (.int v), l3, l4] st H Q = M15 67 [l0, l1, .val (.int (v + 1)), l3, l4] st H Q := w_iinc (show decode kb15 64 = .ok (.iinc 2 1, 3) from by decide +kernel) rfl (by decide) rfl
theorem m15_67 : M15 67 ls st H Q = M15 2 ls st H Q := w_x (show decode kb15 67 = .ok (.goto (-65), 3) from by decide +kernel) rfl
theorem m15_70 : M15 70 ls [] H Q = Q none H := w_vret (show decode kb15 70 = .ok (.return_, 1) from by decide +kernel) rfl
theorem m16_0 : M16 0 ls st H Q = M16 1 ls (.int 0 :: st) H Q := w_con (show decode kb16 0 = .ok (.iconst 0, 1) from by decide +kernel) rfl (by decide)
theorem m16_1u : M16 1 [l0, l1, l2, .unset, l4, l5, l6, l7] ((.int v) :: st) H Q = M16 2 [l0, l1, l2, .val (.int v), l4, l5, l6, l7] st H Q := w_st (i := 3) (p := isI) (show decode kb16 1 = .ok (.istore_n 3, 1) from by decide +kernel) rfl rfl rfl rfl rfl rfl
theorem m16_2 : M16 2 [.val (.ref r), l1, l2, l3, l4, l5, l6, l7] st H Q = M16 3 [.val (.ref r), l1, l2, l3, l4, l5, l6, l7] (.ref r :: st) H Q := w_x (show decode kb16 2 = .ok (.aload_n 0, 1) from by decide +kernel) rfl
theorem m16_3 : M16 3 ls (.ref b :: st) (put b pre s A post) Q = M16 6 ls (.ref (b + 4) :: st) (put b pre s A post) Q := w_get (show decode kb16 3 = .ok (.getfield 19, 3) from by decide +kernel) gf_19 put_o rfl
theorem m16_6 : M16 6 [l0, .val (.int v), l2, l3, l4, l5, l6, l7] st H Q = M16 7 [l0, .val (.int v), l2, l3, l4, l5, l6, l7] (.int v :: st) H Q := w_x (show decode kb16 6 = .ok (.iload_n 1, 1) from by decide +kernel) rfl
theorem m16_7  : M16 7 ls (.int j :: .ref (b + 4) :: st) (put b pre s A post) Q = (inB j (A 3) ∧ M16 8 ls (.int (getA (A 3) j) :: st) (put b pre s A post) Q) := w_ild (show decode kb16 7 = .ok (.iaload, 1) from by decide +kernel) rfl put_a3
theorem m16_8u : M16 8 [l0, l1, l2, l3, .unset, l5, l6, l7] ((.int v) :: st) H Q = M16 10 [l0, l1, l2, l3, .val (.int v), l5, l6, l7] st H Q := w_st (i := 4) (p := isI) (show decode kb16 8 = .ok (.istore 4, 2) from by decide +kernel) rfl rfl rfl rfl rfl rfl
theorem m16_10 : M16 10 ls st H Q = M16 11 ls (.int 0 :: st) H Q := w_con (show decode kb16 10 = .ok (.iconst 0, 1) from by decide +kernel) rfl (by decide)
theorem m16_11u : M16 11 [l0, l1, l2, l3, l4, .unset, l6, l7] ((.int v) :: st) H Q = M16 13 [l0, l1, l2, l3, l4, .val (.int v), l6, l7] st H Q := w_st (i := 5) (p := isI) (show decode kb16 11 = .ok (.istore 5, 2) from by decide +kernel) rfl rfl rfl rfl rfl rfl
theorem m16_13 : M16 13 [l0, l1, l2, l3, l4, .val (.int v), l6, l7] st H Q = M16 15 [l0, l1, l2, l3, l4, .val (.int v), l6, l7] (.int v :: st) H Q := w_x (show decode kb16 13 = .ok (.iload 5, 2) from by decide +kernel) rfl
theorem m16_15 : M16 15 [l0, l1, .val (.int v), l3, l4, l5, l6, l7] st H Q = M16 16 [l0, l1, .val (.int v), l3, l4, l5, l6, l7] (.int v :: st) H Q := w_x (show decode kb16 15 = .ok (.iload_n 2, 1) from by decide +kernel) rfl
theorem m16_16 : M16 16 ls (.int y :: .int x :: st) H Q = if x < y then M16 19 ls st H Q else M16 95 ls st H Q := w_icmpN (show decode kb16 16 = .ok (.if_icmp .ge 79, 3) from by decide +kernel) (i_ge x y) rfl
theorem m16_19 : M16 19 [.val (.ref r), l1, l2, l3, l4, l5, l6, l7] st H Q = M16 20 [.val (.ref r), l1, l2, l3, l4, l5, l6, l7] (.ref r :: st) H Q := w_x (show decode kb16 19 = .ok (.aload_n 0, 1) from by decide +kernel) rfl
theorem m16_20 : M16 20 ls (.ref b :: st) (put b pre s A post) Q = M16 23 ls (.ref (b + 4) :: st) (put b pre s A post) Q := w_get (show decode kb16 20 = .ok (.getfield 19, 3) from by decide +kernel) gf_19 put_o rfl
theorem m16_23 : M16 23 [l0, l1, l2, l3, l4, .val (.int v), l6, l7] st H Q = M16 25 [l0, l1, l2, l3, l4, .val (.int v), l6, l7] (.int v :: st) H Q := w_x (show decode kb16 23 = .ok (.iload 5, 2) from by decide +kernel) rfl
theorem m16_25  : M16 25 ls (.int j :: .ref (b + 4) :: st) (put b pre s A post) Q = (inB j (A 3) ∧ M16 26 ls (.int (getA (A 3) j) :: st) (put b pre s A post) Q) := w_ild (show decode kb16 25 = .ok (.iaload, 1) from by decide +kernel) rfl put_a3
theorem m16_26 : M16 26 [l0, l1, l2, l3, .val (.int v), l5, l6, l7] st H Q = M16 28 [l0, l1, l2, l3, .val (.int v), l5, l6, l7] (.int v :: st) H Q := w_x (show decode kb16 26 = .ok (.iload 4, 2) from by decide +kernel) rfl
theorem m16_28 : M16 28 ls (.int y :: .int x :: st) H Q = if x < y then M16 34 ls st H Q else M16 31 ls st H Q := w_icmp (show decode kb16 28 = .ok (.if_icmp .lt 6, 3) from by decide +kernel) (i_lt x y) rfl
theorem m16_31 : M16 31 ls st H Q = M16 89 ls st H Q := w_x (show decode kb16 31 = .ok (.goto 58, 3) from by decide +kernel) rfl
theorem m16_34 : M16 34 ls st H Q = M16 35 ls (.int 0 :: st) H Q := w_con (show decode kb16 34 = .ok (.iconst 0, 1) from by decide +kernel) rfl (by decide)
theorem m16_35u : M16 35 [l0, l1, l2, l3, l4, l5, .unset, l7] ((.int v) :: st) H Q = M16 37 [l0, l1, l2, l3, l4, l5, .val (.int v), l7] st H Q := w_st (i := 6) (p := isI) (show decode kb16 35 = .ok (.istore 6, 2) from by decide +kernel) rfl rfl rfl rfl rfl rfl
theorem m16_35i : M16 35 [l0, l1, l2, l3, l4, l5, .val (.int z), l7] ((.int v) :: st) H Q = M16 37 [l0, l1, l2, l3, l4, l5, .val (.int v), l7] st H Q := w_st (i := 6) (p := isI) (show decode kb16 35 = .ok (.istore 6, 2) from by decide +kernel) rfl rfl rfl rfl rfl rfl
theorem m16_35r : M16 35 [l0, l1, l2, l3, l4, l5, .val (.ref q), l7] ((.int v) :: st) H Q = M16 37 [l0, l1, l2, l3, l4, l5, .val (.int v), l7] st H Q := w_st (i := 6) (p := isI) (show decode kb16 35 = .ok (.istore 6, 2) from by decide +kernel) rfl rfl rfl rfl rfl rfl
theorem m16_37 : M16 37 [l0, l1, l2, l3, l4, l5, .val (.int v), l7] st H Q = M16 39 [l0, l1, l2, l3, l4, l5, .val (.int v), l7] (.int v :: st) H Q := w_x (show decode kb16 37 = .ok (.iload 6, 2) from by decide +kernel) rfl
theorem m16_39 : M16 39 ls st H Q = M16 40 ls (.int 4 :: st) H Q := w_con (show decode kb16 39 = .ok (.iconst 4, 1) from by decide +kernel) rfl (by decide)
theorem m16_40 : M16 40 ls (.int y :: .int x :: st) H Q = if x < y then M16 43 ls st H Q else M16 89 ls st H Q := w_icmpN (show decode kb16 40 = .ok (.if_icmp .ge 49, 3) from by decide +kernel) (i_ge x y) rfl
theorem m16_43 : M16 43 [.val (.ref r), l1, l2, l3, l4, l5, l6, l7] st H Q = M16 44 [.val (.ref r), l1, l2, l3, l4, l5, l6, l7] (.ref r :: st) H Q := w_x (show decode kb16 43 = .ok (.aload_n 0, 1) from by decide +kernel) rfl
theorem m16_44 : M16 44 ls (.ref b :: st) (put b pre s A post) Q = M16 47 ls (.ref (b + 6) :: st) (put b pre s A post) Q := w_get (show decode kb16 44 = .ok (.getfield 25, 3) from by decide +kernel) gf_25 put_o rfl
theorem m16_47 : M16 47 [l0, l1, l2, l3, l4, .val (.int v), l6, l7] st H Q = M16 49 [l0, l1, l2, l3, l4, .val (.int v), l6, l7] (.int v :: st) H Q := w_x (show decode kb16 47 = .ok (.iload 5, 2) from by decide +kernel) rfl
theorem m16_49 : M16 49 ls st H Q = M16 50 ls (.int 4 :: st) H Q := w_con (show decode kb16 49 = .ok (.iconst 4, 1) from by decide +kernel) rfl (by decide)
theorem m16_50 : M16 50 ls (.int y :: .int x :: st) H Q = M16 51 ls (.int (x * y) :: st) H Q := w_x (show decode kb16 50 = .ok (.imul, 1) from by decide +kernel) rfl
theorem m16_51 : M16 51 [l0, l1, l2, l3, l4, l5, .val (.int v), l7] st H Q = M16 53 [l0, l1, l2, l3, l4, l5, .val (.int v), l7] (.int v :: st) H Q := w_x (show decode kb16 51 = .ok (.iload 6, 2) from by decide +kernel) rfl
theorem m16_53 : M16 53 ls (.int y :: .int x :: st) H Q = M16 54 ls (.int (x + y) :: st) H Q := w_x (show decode kb16 53 = .ok (.iadd, 1) from by decide +kernel) rfl
theorem m16_54  : M16 54 ls (.int j :: .ref (b + 6) :: st) (put b pre s A post) Q = (inB j (A 5) ∧ M16 55 ls (.int (getA (A 5) j) :: st) (put b pre s A post) Q) := w_ild (show decode kb16 54 = .ok (.iaload, 1) from by decide +kernel) rfl put_a5
theorem m16_55u : M16 55 [l0, l1, l2, l3, l4, l5, l6, .unset] ((.int v) :: st) H Q = M16 57 [l0, l1, l2, l3, l4, l5, l6, .val (.int v)] st H Q := w_st (i := 7) (p := isI) (show decode kb16 55 = .ok (.istore 7, 2) from by decide +kernel) rfl rfl rfl rfl rfl rfl
theorem m16_55i : M16 55 [l0, l1, l2, l3, l4, l5, l6, .val (.int z)] ((.int v) :: st) H Q = M16 57 [l0, l1, l2, l3, l4, l5, l6, .val (.int v)] st H Q := w_st (i := 7) (p := isI) (show decode kb16 55 = .ok (.istore 7, 2) from by decide +kernel) rfl rfl rfl rfl rfl rfl
theorem m16_55r : M16 55 [l0, l1, l2, l3, l4, l5, l6, .val (.ref q)] ((.int v) :: st) H Q = M16 57 [l0, l1, l2, l3, l4, l5, l6, .val (.int v)] st H Q := w_st (i := 7) (p := isI) (show decode kb16 55 = .ok (.istore 7, 2) from by decide +kernel) rfl rfl rfl rfl rfl rfl
theorem m16_57 : M16 57 [l0, l1, l2, l3, l4, l5, l6, .val (.int v)] st H Q = M16 59 [l0, l1, l2, l3, l4, l5, l6, .val (.int v)] (.int v :: st) H Q := w_x (show decode kb16 57 = .ok (.iload 7, 2) from by decide +kernel) rfl
theorem m16_59 : M16 59 ls (.int x :: st) H Q = if 0 < x then M16 62 ls st H Q else M16 83 ls st H Q := w_ifN (show decode kb16 59 = .ok (.ifCond .le 24, 3) from by decide +kernel) (z_le x) rfl
theorem m16_62 : M16 62 [.val (.ref r), l1, l2, l3, l4, l5, l6, l7] st H Q = M16 63 [.val (.ref r), l1, l2, l3, l4, l5, l6, l7] (.ref r :: st) H Q := w_x (show decode kb16 62 = .ok (.aload_n 0, 1) from by decide +kernel) rfl
theorem m16_63 : M16 63 ls (.ref b :: st) (put b pre s A post) Q = M16 66 ls (.ref (b + 12) :: st) (put b pre s A post) Q := w_get (show decode kb16 63 = .ok (.getfield 43, 3) from by decide +kernel) gf_43 put_o rfl
theorem m16_66 : M16 66 [l0, l1, l2, l3, l4, l5, .val (.int v), l7] st H Q = M16 68 [l0, l1, l2, l3, l4, l5, .val (.int v), l7] (.int v :: st) H Q := w_x (show decode kb16 66 = .ok (.iload 6, 2) from by decide +kernel) rfl
theorem m16_68  : M16 68 ls (.int j :: .ref (b + 12) :: st) (put b pre s A post) Q = (inB j (A 11) ∧ M16 69 ls (.int (getA (A 11) j) :: st) (put b pre s A post) Q) := w_ild (show decode kb16 68 = .ok (.iaload, 1) from by decide +kernel) rfl put_a11
theorem m16_69 : M16 69 [l0, l1, l2, l3, .val (.int v), l5, l6, l7] st H Q = M16 71 [l0, l1, l2, l3, .val (.int v), l5, l6, l7] (.int v :: st) H Q := w_x (show decode kb16 69 = .ok (.iload 4, 2) from by decide +kernel) rfl
theorem m16_71 : M16 71 ls (.int y :: .int x :: st) H Q = if x < y then M16 83 ls st H Q else M16 74 ls st H Q := w_icmp (show decode kb16 71 = .ok (.if_icmp .lt 12, 3) from by decide +kernel) (i_lt x y) rfl
theorem m16_74 : M16 74 [l0, l1, l2, l3, l4, l5, l6, .val (.int v)] st H Q = M16 76 [l0, l1, l2, l3, l4, l5, l6, .val (.int v)] (.int v :: st) H Q := w_x (show decode kb16 74 = .ok (.iload 7, 2) from by decide +kernel) rfl
theorem m16_76 : M16 76 [l0, l1, l2, .val (.int v), l4, l5, l6, l7] st H Q = M16 77 [l0, l1, l2, .val (.int v), l4, l5, l6, l7] (.int v :: st) H Q := w_x (show decode kb16 76 = .ok (.iload_n 3, 1) from by decide +kernel) rfl
theorem m16_77 : M16 77 ls (.int y :: .int x :: st) H Q = if y < x then M16 80 ls st H Q else M16 83 ls st H Q := w_icmpN (show decode kb16 77 = .ok (.if_icmp .le 6, 3) from by decide +kernel) (i_le x y) rfl
theorem m16_80 : M16 80 [l0, l1, l2, l3, l4, l5, l6, .val (.int v)] st H Q = M16 82 [l0, l1, l2, l3, l4, l5, l6, .val (.int v)] (.int v :: st) H Q := w_x (show decode kb16 80 = .ok (.iload 7, 2) from by decide +kernel) rfl
theorem m16_82i : M16 82 [l0, l1, l2, .val (.int z), l4, l5, l6, l7] ((.int v) :: st) H Q = M16 83 [l0, l1, l2, .val (.int v), l4, l5, l6, l7] st H Q := w_st (i := 3) (p := isI) (show decode kb16 82 = .ok (.istore_n 3, 1) from by decide +kernel) rfl rfl rfl rfl rfl rfl
theorem m16_83 : M16 83 [l0, l1, l2, l3, l4, l5, .val (.int v), l7] st H Q = M16 86 [l0, l1, l2, l3, l4, l5, .val (.int (v + 1)), l7] st H Q := w_iinc (show decode kb16 83 = .ok (.iinc 6 1, 3) from by decide +kernel) rfl (by decide) rfl
theorem m16_86 : M16 86 ls st H Q = M16 37 ls st H Q := w_x (show decode kb16 86 = .ok (.goto (-49), 3) from by decide +kernel) rfl
theorem m16_89 : M16 89 [l0, l1, l2, l3, l4, .val (.int v), l6, l7] st H Q = M16 92 [l0, l1, l2, l3, l4, .val (.int (v + 1)), l6, l7] st H Q := w_iinc (show decode kb16 89 = .ok (.iinc 5 1, 3) from by decide +kernel) rfl (by decide) rfl
theorem m16_92 : M16 92 ls st H Q = M16 13 ls st H Q := w_x (show decode kb16 92 = .ok (.goto (-79), 3) from by decide +kernel) rfl
theorem m16_95 : M16 95 [l0, l1, l2, .val (.int v), l4, l5, l6, l7] st H Q = M16 96 [l0, l1, l2, .val (.int v), l4, l5, l6, l7] (.int v :: st) H Q := w_x (show decode kb16 95 = .ok (.iload_n 3, 1) from by decide +kernel) rfl
theorem m16_96 : M16 96 ls (.int z :: st) H Q = Q (some (.int z)) H := w_iret (show decode kb16 96 = .ok (.ireturn, 1) from by decide +kernel) rfl
theorem m17_0 : M17 0 [.val (.ref r), l1, l2, l3, l4, l5, l6, l7] st H Q = M17 1 [.val (.ref r), l1, l2, l3, l4, l5, l6, l7] (.ref r :: st) H Q := w_x (show decode kb17 0 = .ok (.aload_n 0, 1) from by decide +kernel) rfl
theorem m17_1 : M17 1 ls (.ref b :: st) (put b pre s A post) Q = M17 4 ls (.ref (b + 3) :: st) (put b pre s A post) Q := w_get (show decode kb17 1 = .ok (.getfield 16, 3) from by decide +kernel) gf_16 put_o rfl
theorem m17_4 : M17 4 [l0, .val (.int v), l2, l3, l4, l5, l6, l7] st H Q = M17 5 [l0, .val (.int v), l2, l3, l4, l5, l6, l7] (.int v :: st) H Q := w_x (show decode kb17 4 = .ok (.iload_n 1, 1) from by decide +kernel) rfl
theorem m17_5  : M17 5 ls (.int j :: .ref (b + 3) :: st) (put b pre s A post) Q = (inB j (A 2) ∧ M17 6 ls (.int (getA (A 2) j) :: st) (put b pre s A post) Q) := w_ild (show decode kb17 5 = .ok (.iaload, 1) from by decide +kernel) rfl put_a2
theorem m17_6 : M17 6 [l0, l1, l2, .val (.int v), l4, l5, l6, l7] st H Q = M17 7 [l0, l1, l2, .val (.int v), l4, l5, l6, l7] (.int v :: st) H Q := w_x (show decode kb17 6 = .ok (.iload_n 3, 1) from by decide +kernel) rfl
theorem m17_7 : M17 7 ls (.int y :: .int x :: st) H Q = M17 8 ls (.int (x + y) :: st) H Q := w_x (show decode kb17 7 = .ok (.iadd, 1) from by decide +kernel) rfl
theorem m17_8u : M17 8 [l0, l1, l2, l3, .unset, l5, l6, l7] ((.int v) :: st) H Q = M17 10 [l0, l1, l2, l3, .val (.int v), l5, l6, l7] st H Q := w_st (i := 4) (p := isI) (show decode kb17 8 = .ok (.istore 4, 2) from by decide +kernel) rfl rfl rfl rfl rfl rfl
theorem m17_10 : M17 10 [l0, l1, l2, l3, .val (.int v), l5, l6, l7] st H Q = M17 12 [l0, l1, l2, l3, .val (.int v), l5, l6, l7] (.int v :: st) H Q := w_x (show decode kb17 10 = .ok (.iload 4, 2) from by decide +kernel) rfl
theorem m17_12u : M17 12 [l0, l1, l2, l3, l4, .unset, l6, l7] ((.int v) :: st) H Q = M17 14 [l0, l1, l2, l3, l4, .val (.int v), l6, l7] st H Q := w_st (i := 5) (p := isI) (show decode kb17 12 = .ok (.istore 5, 2) from by decide +kernel) rfl rfl rfl rfl rfl rfl
theorem m17_14 : M17 14 ls st H Q = M17 15 ls (.int 0 :: st) H Q := w_con (show decode kb17 14 = .ok (.iconst 0, 1) from by decide +kernel) rfl (by decide)
theorem m17_15u : M17 15 [l0, l1, l2, l3, l4, l5, .unset, l7] ((.int v) :: st) H Q = M17 17 [l0, l1, l2, l3, l4, l5, .val (.int v), l7] st H Q := w_st (i := 6) (p := isI) (show decode kb17 15 = .ok (.istore 6, 2) from by decide +kernel) rfl rfl rfl rfl rfl rfl
theorem m17_17 : M17 17 [l0, l1, l2, l3, l4, l5, .val (.int v), l7] st H Q = M17 19 [l0, l1, l2, l3, l4, l5, .val (.int v), l7] (.int v :: st) H Q := w_x (show decode kb17 17 = .ok (.iload 6, 2) from by decide +kernel) rfl
theorem m17_19 : M17 19 ls st H Q = M17 22 ls (.int 842 :: st) H Q := w_con (show decode kb17 19 = .ok (.sipush 842, 3) from by decide +kernel) rfl (by decide)
theorem m17_22 : M17 22 ls (.int y :: .int x :: st) H Q = if x < y then M17 25 ls st H Q else M17 71 ls st H Q := w_icmpN (show decode kb17 22 = .ok (.if_icmp .ge 49, 3) from by decide +kernel) (i_ge x y) rfl
theorem m17_25 : M17 25 [l0, l1, l2, l3, l4, .val (.int v), l6, l7] st H Q = M17 27 [l0, l1, l2, l3, l4, .val (.int v), l6, l7] (.int v :: st) H Q := w_x (show decode kb17 25 = .ok (.iload 5, 2) from by decide +kernel) rfl
theorem m17_27 : M17 27 [.val (.ref r), l1, l2, l3, l4, l5, l6, l7] st H Q = M17 28 [.val (.ref r), l1, l2, l3, l4, l5, l6, l7] (.ref r :: st) H Q := w_x (show decode kb17 27 = .ok (.aload_n 0, 1) from by decide +kernel) rfl
theorem m17_28 : M17 28 ls (.ref b :: st) (put b pre s A post) Q = M17 31 ls (.ref (b + 2) :: st) (put b pre s A post) Q := w_get (show decode kb17 28 = .ok (.getfield 13, 3) from by decide +kernel) gf_13 put_o rfl
theorem m17_31 : M17 31 [l0, .val (.int v), l2, l3, l4, l5, l6, l7] st H Q = M17 32 [l0, .val (.int v), l2, l3, l4, l5, l6, l7] (.int v :: st) H Q := w_x (show decode kb17 31 = .ok (.iload_n 1, 1) from by decide +kernel) rfl
theorem m17_32  : M17 32 ls (.int j :: .ref (b + 2) :: st) (put b pre s A post) Q = (inB j (A 1) ∧ M17 33 ls (.int (getA (A 1) j) :: st) (put b pre s A post) Q) := w_ild (show decode kb17 32 = .ok (.iaload, 1) from by decide +kernel) rfl put_a1
theorem m17_33 : M17 33 ls (.int y :: .int x :: st) H Q = if y < x then M17 36 ls st H Q else M17 38 ls st H Q := w_icmpN (show decode kb17 33 = .ok (.if_icmp .le 5, 3) from by decide +kernel) (i_le x y) rfl
theorem m17_36 : M17 36 ls st H Q = M17 37 ls (.int (-1) :: st) H Q := w_con (show decode kb17 36 = .ok (.iconst (-1), 1) from by decide +kernel) rfl (by decide)
theorem m17_37 : M17 37 ls (.int z :: st) H Q = Q (some (.int z)) H := w_iret (show decode kb17 37 = .ok (.ireturn, 1) from by decide +kernel) rfl
theorem m17_38 : M17 38 [l0, l1, l2, l3, .val (.int v), l5, l6, l7] st H Q = M17 40 [l0, l1, l2, l3, .val (.int v), l5, l6, l7] (.int v :: st) H Q := w_x (show decode kb17 38 = .ok (.iload 4, 2) from by decide +kernel) rfl
theorem m17_40 : M17 40 [.val (.ref r), l1, l2, l3, l4, l5, l6, l7] st H Q = M17 41 [.val (.ref r), l1, l2, l3, l4, l5, l6, l7] (.ref r :: st) H Q := w_x (show decode kb17 40 = .ok (.aload_n 0, 1) from by decide +kernel) rfl
theorem m17_41 : M17 41 [l0, .val (.int v), l2, l3, l4, l5, l6, l7] st H Q = M17 42 [l0, .val (.int v), l2, l3, l4, l5, l6, l7] (.int v :: st) H Q := w_x (show decode kb17 41 = .ok (.iload_n 1, 1) from by decide +kernel) rfl
theorem m17_42 : M17 42 [l0, l1, .val (.int v), l3, l4, l5, l6, l7] st H Q = M17 43 [l0, l1, .val (.int v), l3, l4, l5, l6, l7] (.int v :: st) H Q := w_x (show decode kb17 42 = .ok (.iload_n 2, 1) from by decide +kernel) rfl
theorem m17_43 : M17 43 [l0, l1, l2, l3, l4, .val (.int v), l6, l7] st H Q = M17 45 [l0, l1, l2, l3, l4, .val (.int v), l6, l7] (.int v :: st) H Q := w_x (show decode kb17 43 = .ok (.iload 5, 2) from by decide +kernel) rfl
theorem cr17_139 : vR tables_1 dn y17 139 = some (true, y18, prog_1_method_15_code, 8, (some .int), 3, 1) := pR_of (cR_of (by decide +kernel) rc_18 dn_18 dn_17 (sig := ⟨[.int, .int, .int], some .int⟩) (by decide +kernel) (by decide +kernel) rfl rfl) (by decide +kernel) (by decide +kernel)
theorem m17_45 (a0 : Int32) (a1 : Int32) (a2 : Int32) (u0 : Int32) : M17 45 ls [.int a2, .int a1, .int a0, .ref b, .int u0] (put b pre s A post) Q = M18 0 [.val (.ref b), .val (.int a0), .val (.int a1), .val (.int a2), .unset, .unset, .unset, .unset] [] (put b pre s A post) (fun v H1 => M17 48 ls (v.toList ++ [.int u0]) H1 Q) := w_virt (as := [.int a2, .int a1, .int a0]) (rest := [.int u0]) (a := b) (show decode kb17 45 = .ok (.invokevirtual 139, 3) from by decide +kernel) cr17_139 put_o rfl rfl (Nat.le_of_ble_eq_true rfl) (by show 4 ≤ 8; omega) rfl
theorem m17_48 : M17 48 ls (.int y :: .int x :: st) H Q = M17 49 ls (.int (x + y) :: st) H Q := w_x (show decode kb17 48 = .ok (.iadd, 1) from by decide +kernel) rfl
theorem m17_49u : M17 49 [l0, l1, l2, l3, l4, l5, l6, .unset] ((.int v) :: st) H Q = M17 51 [l0, l1, l2, l3, l4, l5, l6, .val (.int v)] st H Q := w_st (i := 7) (p := isI) (show decode kb17 49 = .ok (.istore 7, 2) from by decide +kernel) rfl rfl rfl rfl rfl rfl
theorem m17_49i : M17 49 [l0, l1, l2, l3, l4, l5, l6, .val (.int z)] ((.int v) :: st) H Q = M17 51 [l0, l1, l2, l3, l4, l5, l6, .val (.int v)] st H Q := w_st (i := 7) (p := isI) (show decode kb17 49 = .ok (.istore 7, 2) from by decide +kernel) rfl rfl rfl rfl rfl rfl
theorem m17_49r : M17 49 [l0, l1, l2, l3, l4, l5, l6, .val (.ref q)] ((.int v) :: st) H Q = M17 51 [l0, l1, l2, l3, l4, l5, l6, .val (.int v)] st H Q := w_st (i := 7) (p := isI) (show decode kb17 49 = .ok (.istore 7, 2) from by decide +kernel) rfl rfl rfl rfl rfl rfl
theorem m17_51 : M17 51 [l0, l1, l2, l3, l4, l5, l6, .val (.int v)] st H Q = M17 53 [l0, l1, l2, l3, l4, l5, l6, .val (.int v)] (.int v :: st) H Q := w_x (show decode kb17 51 = .ok (.iload 7, 2) from by decide +kernel) rfl
theorem m17_53 : M17 53 [l0, l1, l2, l3, l4, .val (.int v), l6, l7] st H Q = M17 55 [l0, l1, l2, l3, l4, .val (.int v), l6, l7] (.int v :: st) H Q := w_x (show decode kb17 53 = .ok (.iload 5, 2) from by decide +kernel) rfl
theorem m17_55 : M17 55 ls (.int y :: .int x :: st) H Q = if x = y then M17 58 ls st H Q else M17 61 ls st H Q := w_icmpN (show decode kb17 55 = .ok (.if_icmp .ne 6, 3) from by decide +kernel) (i_ne x y) rfl
theorem m17_58 : M17 58 [l0, l1, l2, l3, l4, .val (.int v), l6, l7] st H Q = M17 60 [l0, l1, l2, l3, l4, .val (.int v), l6, l7] (.int v :: st) H Q := w_x (show decode kb17 58 = .ok (.iload 5, 2) from by decide +kernel) rfl
theorem m17_60 : M17 60 ls (.int z :: st) H Q = Q (some (.int z)) H := w_iret (show decode kb17 60 = .ok (.ireturn, 1) from by decide +kernel) rfl
theorem m17_61 : M17 61 [l0, l1, l2, l3, l4, l5, l6, .val (.int v)] st H Q = M17 63 [l0, l1, l2, l3, l4, l5, l6, .val (.int v)] (.int v :: st) H Q := w_x (show decode kb17 61 = .ok (.iload 7, 2) from by decide +kernel) rfl
theorem m17_63i : M17 63 [l0, l1, l2, l3, l4, .val (.int z), l6, l7] ((.int v) :: st) H Q = M17 65 [l0, l1, l2, l3, l4, .val (.int v), l6, l7] st H Q := w_st (i := 5) (p := isI) (show decode kb17 63 = .ok (.istore 5, 2) from by decide +kernel) rfl rfl rfl rfl rfl rfl
theorem m17_65 : M17 65 [l0, l1, l2, l3, l4, l5, .val (.int v), l7] st H Q = M17 68 [l0, l1, l2, l3, l4, l5, .val (.int (v + 1)), l7] st H Q := w_iinc (show decode kb17 65 = .ok (.iinc 6 1, 3) from by decide +kernel) rfl (by decide) rfl
theorem m17_68 : M17 68 ls st H Q = M17 17 ls st H Q := w_x (show decode kb17 68 = .ok (.goto (-51), 3) from by decide +kernel) rfl
theorem m17_71 : M17 71 ls st H Q = M17 72 ls (.int (-1) :: st) H Q := w_con (show decode kb17 71 = .ok (.iconst (-1), 1) from by decide +kernel) rfl (by decide)
theorem m17_72 : M17 72 ls (.int z :: st) H Q = Q (some (.int z)) H := w_iret (show decode kb17 72 = .ok (.ireturn, 1) from by decide +kernel) rfl
theorem m18_0 : M18 0 ls st H Q = M18 1 ls (.int 0 :: st) H Q := w_con (show decode kb18 0 = .ok (.iconst 0, 1) from by decide +kernel) rfl (by decide)
theorem m18_1u : M18 1 [l0, l1, l2, l3, .unset, l5, l6, l7] ((.int v) :: st) H Q = M18 3 [l0, l1, l2, l3, .val (.int v), l5, l6, l7] st H Q := w_st (i := 4) (p := isI) (show decode kb18 1 = .ok (.istore 4, 2) from by decide +kernel) rfl rfl rfl rfl rfl rfl
theorem m18_3 : M18 3 [.val (.ref r), l1, l2, l3, l4, l5, l6, l7] st H Q = M18 4 [.val (.ref r), l1, l2, l3, l4, l5, l6, l7] (.ref r :: st) H Q := w_x (show decode kb18 3 = .ok (.aload_n 0, 1) from by decide +kernel) rfl
theorem m18_4 : M18 4 ls (.ref b :: st) (put b pre s A post) Q = M18 7 ls (.ref (b + 4) :: st) (put b pre s A post) Q := w_get (show decode kb18 4 = .ok (.getfield 19, 3) from by decide +kernel) gf_19 put_o rfl
theorem m18_7 : M18 7 [l0, .val (.int v), l2, l3, l4, l5, l6, l7] st H Q = M18 8 [l0, .val (.int v), l2, l3, l4, l5, l6, l7] (.int v :: st) H Q := w_x (show decode kb18 7 = .ok (.iload_n 1, 1) from by decide +kernel) rfl
theorem m18_8  : M18 8 ls (.int j :: .ref (b + 4) :: st) (put b pre s A post) Q = (inB j (A 3) ∧ M18 9 ls (.int (getA (A 3) j) :: st) (put b pre s A post) Q) := w_ild (show decode kb18 8 = .ok (.iaload, 1) from by decide +kernel) rfl put_a3
theorem m18_9u : M18 9 [l0, l1, l2, l3, l4, .unset, l6, l7] ((.int v) :: st) H Q = M18 11 [l0, l1, l2, l3, l4, .val (.int v), l6, l7] st H Q := w_st (i := 5) (p := isI) (show decode kb18 9 = .ok (.istore 5, 2) from by decide +kernel) rfl rfl rfl rfl rfl rfl
theorem m18_11 : M18 11 ls st H Q = M18 12 ls (.int 0 :: st) H Q := w_con (show decode kb18 11 = .ok (.iconst 0, 1) from by decide +kernel) rfl (by decide)
theorem m18_12u : M18 12 [l0, l1, l2, l3, l4, l5, .unset, l7] ((.int v) :: st) H Q = M18 14 [l0, l1, l2, l3, l4, l5, .val (.int v), l7] st H Q := w_st (i := 6) (p := isI) (show decode kb18 12 = .ok (.istore 6, 2) from by decide +kernel) rfl rfl rfl rfl rfl rfl
theorem m18_14 : M18 14 [l0, l1, l2, l3, l4, l5, .val (.int v), l7] st H Q = M18 16 [l0, l1, l2, l3, l4, l5, .val (.int v), l7] (.int v :: st) H Q := w_x (show decode kb18 14 = .ok (.iload 6, 2) from by decide +kernel) rfl
theorem m18_16 : M18 16 [l0, l1, .val (.int v), l3, l4, l5, l6, l7] st H Q = M18 17 [l0, l1, .val (.int v), l3, l4, l5, l6, l7] (.int v :: st) H Q := w_x (show decode kb18 16 = .ok (.iload_n 2, 1) from by decide +kernel) rfl
theorem m18_17 : M18 17 ls (.int y :: .int x :: st) H Q = if x < y then M18 20 ls st H Q else M18 74 ls st H Q := w_icmpN (show decode kb18 17 = .ok (.if_icmp .ge 57, 3) from by decide +kernel) (i_ge x y) rfl
theorem m18_20 : M18 20 [.val (.ref r), l1, l2, l3, l4, l5, l6, l7] st H Q = M18 21 [.val (.ref r), l1, l2, l3, l4, l5, l6, l7] (.ref r :: st) H Q := w_x (show decode kb18 20 = .ok (.aload_n 0, 1) from by decide +kernel) rfl
theorem m18_21 : M18 21 ls (.ref b :: st) (put b pre s A post) Q = M18 24 ls (.ref (b + 1) :: st) (put b pre s A post) Q := w_get (show decode kb18 21 = .ok (.getfield 7, 3) from by decide +kernel) gf_7 put_o rfl
theorem m18_24 : M18 24 [l0, l1, l2, l3, l4, l5, .val (.int v), l7] st H Q = M18 26 [l0, l1, l2, l3, l4, l5, .val (.int v), l7] (.int v :: st) H Q := w_x (show decode kb18 24 = .ok (.iload 6, 2) from by decide +kernel) rfl
theorem m18_26  : M18 26 ls (.int j :: .ref (b + 1) :: st) (put b pre s A post) Q = (inB j (A 0) ∧ M18 27 ls (.int (getA (A 0) j) :: st) (put b pre s A post) Q) := w_ild (show decode kb18 26 = .ok (.iaload, 1) from by decide +kernel) rfl put_a0
theorem m18_27u : M18 27 [l0, l1, l2, l3, l4, l5, l6, .unset] ((.int v) :: st) H Q = M18 29 [l0, l1, l2, l3, l4, l5, l6, .val (.int v)] st H Q := w_st (i := 7) (p := isI) (show decode kb18 27 = .ok (.istore 7, 2) from by decide +kernel) rfl rfl rfl rfl rfl rfl
theorem m18_27i : M18 27 [l0, l1, l2, l3, l4, l5, l6, .val (.int z)] ((.int v) :: st) H Q = M18 29 [l0, l1, l2, l3, l4, l5, l6, .val (.int v)] st H Q := w_st (i := 7) (p := isI) (show decode kb18 27 = .ok (.istore 7, 2) from by decide +kernel) rfl rfl rfl rfl rfl rfl
theorem m18_27r : M18 27 [l0, l1, l2, l3, l4, l5, l6, .val (.ref q)] ((.int v) :: st) H Q = M18 29 [l0, l1, l2, l3, l4, l5, l6, .val (.int v)] st H Q := w_st (i := 7) (p := isI) (show decode kb18 27 = .ok (.istore 7, 2) from by decide +kernel) rfl rfl rfl rfl rfl rfl
theorem m18_29 : M18 29 [.val (.ref r), l1, l2, l3, l4, l5, l6, l7] st H Q = M18 30 [.val (.ref r), l1, l2, l3, l4, l5, l6, l7] (.ref r :: st) H Q := w_x (show decode kb18 29 = .ok (.aload_n 0, 1) from by decide +kernel) rfl
theorem m18_30 : M18 30 ls (.ref b :: st) (put b pre s A post) Q = M18 33 ls (.ref (b + 4) :: st) (put b pre s A post) Q := w_get (show decode kb18 30 = .ok (.getfield 19, 3) from by decide +kernel) gf_19 put_o rfl
theorem m18_33 : M18 33 [l0, l1, l2, l3, l4, l5, .val (.int v), l7] st H Q = M18 35 [l0, l1, l2, l3, l4, l5, .val (.int v), l7] (.int v :: st) H Q := w_x (show decode kb18 33 = .ok (.iload 6, 2) from by decide +kernel) rfl
theorem m18_35  : M18 35 ls (.int j :: .ref (b + 4) :: st) (put b pre s A post) Q = (inB j (A 3) ∧ M18 36 ls (.int (getA (A 3) j) :: st) (put b pre s A post) Q) := w_ild (show decode kb18 35 = .ok (.iaload, 1) from by decide +kernel) rfl put_a3
theorem m18_36 : M18 36 [l0, l1, l2, l3, l4, .val (.int v), l6, l7] st H Q = M18 38 [l0, l1, l2, l3, l4, .val (.int v), l6, l7] (.int v :: st) H Q := w_x (show decode kb18 36 = .ok (.iload 5, 2) from by decide +kernel) rfl
theorem m18_38 : M18 38 ls (.int y :: .int x :: st) H Q = if y < x then M18 41 ls st H Q else M18 68 ls st H Q := w_icmpN (show decode kb18 38 = .ok (.if_icmp .le 30, 3) from by decide +kernel) (i_le x y) rfl
theorem m18_41 : M18 41 [l0, l1, l2, l3, l4, l5, l6, .val (.int v)] st H Q = M18 43 [l0, l1, l2, l3, l4, l5, l6, .val (.int v)] (.int v :: st) H Q := w_x (show decode kb18 41 = .ok (.iload 7, 2) from by decide +kernel) rfl
theorem m18_43 : M18 43 ls (.int x :: st) H Q = if 0 < x then M18 46 ls st H Q else M18 68 ls st H Q := w_ifN (show decode kb18 43 = .ok (.ifCond .le 25, 3) from by decide +kernel) (z_le x) rfl
theorem m18_46 : M18 46 [l0, l1, l2, l3, .val (.int v), l5, l6, l7] st H Q = M18 48 [l0, l1, l2, l3, .val (.int v), l5, l6, l7] (.int v :: st) H Q := w_x (show decode kb18 46 = .ok (.iload 4, 2) from by decide +kernel) rfl
theorem m18_48 : M18 48 [l0, l1, l2, .val (.int v), l4, l5, l6, l7] st H Q = M18 49 [l0, l1, l2, .val (.int v), l4, l5, l6, l7] (.int v :: st) H Q := w_x (show decode kb18 48 = .ok (.iload_n 3, 1) from by decide +kernel) rfl
theorem m18_49 : M18 49 [l0, l1, l2, l3, l4, l5, l6, .val (.int v)] st H Q = M18 51 [l0, l1, l2, l3, l4, l5, l6, .val (.int v)] (.int v :: st) H Q := w_x (show decode kb18 49 = .ok (.iload 7, 2) from by decide +kernel) rfl
theorem m18_51 : M18 51 ls (.int y :: .int x :: st) H Q = M18 52 ls (.int (x + y) :: st) H Q := w_x (show decode kb18 51 = .ok (.iadd, 1) from by decide +kernel) rfl
theorem m18_52 : M18 52 ls st H Q = M18 53 ls (.int 1 :: st) H Q := w_con (show decode kb18 52 = .ok (.iconst 1, 1) from by decide +kernel) rfl (by decide)
theorem m18_53 : M18 53 ls (.int y :: .int x :: st) H Q = M18 54 ls (.int (x - y) :: st) H Q := w_x (show decode kb18 53 = .ok (.isub, 1) from by decide +kernel) rfl
theorem m18_54 : M18 54 [l0, l1, l2, l3, l4, l5, l6, .val (.int v)] st H Q = M18 56 [l0, l1, l2, l3, l4, l5, l6, .val (.int v)] (.int v :: st) H Q := w_x (show decode kb18 54 = .ok (.iload 7, 2) from by decide +kernel) rfl
theorem m18_56 : M18 56 ls (.int y :: .int x :: st) H Q = (y ≠ 0 ∧ M18 57 ls (.int (x / y) :: st) H Q) := w_div (f := fun x y => x / y) (show decode kb18 56 = .ok (.idiv, 1) from by decide +kernel) (fun _ => rfl) rfl rfl
theorem m18_57 : M18 57 [.val (.ref r), l1, l2, l3, l4, l5, l6, l7] st H Q = M18 58 [.val (.ref r), l1, l2, l3, l4, l5, l6, l7] (.ref r :: st) H Q := w_x (show decode kb18 57 = .ok (.aload_n 0, 1) from by decide +kernel) rfl
theorem m18_58 : M18 58 ls (.ref b :: st) (put b pre s A post) Q = M18 61 ls (.ref (b + 3) :: st) (put b pre s A post) Q := w_get (show decode kb18 58 = .ok (.getfield 16, 3) from by decide +kernel) gf_16 put_o rfl
theorem m18_61 : M18 61 [l0, l1, l2, l3, l4, l5, .val (.int v), l7] st H Q = M18 63 [l0, l1, l2, l3, l4, l5, .val (.int v), l7] (.int v :: st) H Q := w_x (show decode kb18 61 = .ok (.iload 6, 2) from by decide +kernel) rfl
theorem m18_63  : M18 63 ls (.int j :: .ref (b + 3) :: st) (put b pre s A post) Q = (inB j (A 2) ∧ M18 64 ls (.int (getA (A 2) j) :: st) (put b pre s A post) Q) := w_ild (show decode kb18 63 = .ok (.iaload, 1) from by decide +kernel) rfl put_a2
theorem m18_64 : M18 64 ls (.int y :: .int x :: st) H Q = M18 65 ls (.int (x * y) :: st) H Q := w_x (show decode kb18 64 = .ok (.imul, 1) from by decide +kernel) rfl
theorem m18_65 : M18 65 ls (.int y :: .int x :: st) H Q = M18 66 ls (.int (x + y) :: st) H Q := w_x (show decode kb18 65 = .ok (.iadd, 1) from by decide +kernel) rfl
theorem m18_66i : M18 66 [l0, l1, l2, l3, .val (.int z), l5, l6, l7] ((.int v) :: st) H Q = M18 68 [l0, l1, l2, l3, .val (.int v), l5, l6, l7] st H Q := w_st (i := 4) (p := isI) (show decode kb18 66 = .ok (.istore 4, 2) from by decide +kernel) rfl rfl rfl rfl rfl rfl
theorem m18_68 : M18 68 [l0, l1, l2, l3, l4, l5, .val (.int v), l7] st H Q = M18 71 [l0, l1, l2, l3, l4, l5, .val (.int (v + 1)), l7] st H Q := w_iinc (show decode kb18 68 = .ok (.iinc 6 1, 3) from by decide +kernel) rfl (by decide) rfl
theorem m18_71 : M18 71 ls st H Q = M18 14 ls st H Q := w_x (show decode kb18 71 = .ok (.goto (-57), 3) from by decide +kernel) rfl
theorem m18_74 : M18 74 [l0, l1, l2, l3, .val (.int v), l5, l6, l7] st H Q = M18 76 [l0, l1, l2, l3, .val (.int v), l5, l6, l7] (.int v :: st) H Q := w_x (show decode kb18 74 = .ok (.iload 4, 2) from by decide +kernel) rfl
theorem m18_76 : M18 76 ls (.int z :: st) H Q = Q (some (.int z)) H := w_iret (show decode kb18 76 = .ok (.ireturn, 1) from by decide +kernel) rfl
theorem m19_0 : M19 0 ls st H Q = M19 1 ls (.int 0 :: st) H Q := w_con (show decode kb19 0 = .ok (.iconst 0, 1) from by decide +kernel) rfl (by decide)
theorem m19_1u : M19 1 [l0, l1, .unset] ((.int v) :: st) H Q = M19 2 [l0, l1, .val (.int v)] st H Q := w_st (i := 2) (p := isI) (show decode kb19 1 = .ok (.istore_n 2, 1) from by decide +kernel) rfl rfl rfl rfl rfl rfl
theorem m19_2 : M19 2 [l0, l1, .val (.int v)] st H Q = M19 3 [l0, l1, .val (.int v)] (.int v :: st) H Q := w_x (show decode kb19 2 = .ok (.iload_n 2, 1) from by decide +kernel) rfl
theorem m19_3 : M19 3 [l0, .val (.int v), l2] st H Q = M19 4 [l0, .val (.int v), l2] (.int v :: st) H Q := w_x (show decode kb19 3 = .ok (.iload_n 1, 1) from by decide +kernel) rfl
theorem m19_4 : M19 4 ls (.int y :: .int x :: st) H Q = if x < y then M19 7 ls st H Q else M19 37 ls st H Q := w_icmpN (show decode kb19 4 = .ok (.if_icmp .ge 33, 3) from by decide +kernel) (i_ge x y) rfl
theorem m19_7 : M19 7 [.val (.ref r), l1, l2] st H Q = M19 8 [.val (.ref r), l1, l2] (.ref r :: st) H Q := w_x (show decode kb19 7 = .ok (.aload_n 0, 1) from by decide +kernel) rfl
theorem m19_8 : M19 8 ls (.ref b :: st) (put b pre s A post) Q = M19 11 ls (.ref (b + 7) :: st) (put b pre s A post) Q := w_get (show decode kb19 8 = .ok (.getfield 28, 3) from by decide +kernel) gf_28 put_o rfl
theorem m19_11 : M19 11 [l0, l1, .val (.int v)] st H Q = M19 12 [l0, l1, .val (.int v)] (.int v :: st) H Q := w_x (show decode kb19 11 = .ok (.iload_n 2, 1) from by decide +kernel) rfl
theorem m19_12 : M19 12 [.val (.ref r), l1, l2] st H Q = M19 13 [.val (.ref r), l1, l2] (.ref r :: st) H Q := w_x (show decode kb19 12 = .ok (.aload_n 0, 1) from by decide +kernel) rfl
theorem m19_13 : M19 13 ls (.ref b :: st) (put b pre s A post) Q = M19 16 ls (.ref (b + 14) :: st) (put b pre s A post) Q := w_get (show decode kb19 13 = .ok (.getfield 49, 3) from by decide +kernel) gf_49 put_o rfl
theorem m19_16 : M19 16 [l0, l1, .val (.int v)] st H Q = M19 17 [l0, l1, .val (.int v)] (.int v :: st) H Q := w_x (show decode kb19 16 = .ok (.iload_n 2, 1) from by decide +kernel) rfl
theorem m19_17  : M19 17 ls (.int j :: .ref (b + 14) :: st) (put b pre s A post) Q = (inB j (A 13) ∧ M19 18 ls (.int (getA (A 13) j) :: st) (put b pre s A post) Q) := w_ild (show decode kb19 17 = .ok (.iaload, 1) from by decide +kernel) rfl put_a13
theorem m19_18  : M19 18 ls (.int v :: .int j :: .ref (b + 7) :: st) (put b pre s A post) Q = (inB j (A 6) ∧ M19 19 ls st (put b pre s (ou A 6 (setA (A 6) j v)) post) Q) := w_ist (show decode kb19 18 = .ok (.iastore, 1) from by decide +kernel) rfl put_a6 (Nat.zero_le _) rfl put_w6
theorem m19_19 : M19 19 [.val (.ref r), l1, l2] st H Q = M19 20 [.val (.ref r), l1, l2] (.ref r :: st) H Q := w_x (show decode kb19 19 = .ok (.aload_n 0, 1) from by decide +kernel) rfl
theorem m19_20 : M19 20 ls (.ref b :: st) (put b pre s A post) Q = M19 23 ls (.ref (b + 8) :: st) (put b pre s A post) Q := w_get (show decode kb19 20 = .ok (.getfield 31, 3) from by decide +kernel) gf_31 put_o rfl
theorem m19_23 : M19 23 [l0, l1, .val (.int v)] st H Q = M19 24 [l0, l1, .val (.int v)] (.int v :: st) H Q := w_x (show decode kb19 23 = .ok (.iload_n 2, 1) from by decide +kernel) rfl
theorem m19_24 : M19 24 [.val (.ref r), l1, l2] st H Q = M19 25 [.val (.ref r), l1, l2] (.ref r :: st) H Q := w_x (show decode kb19 24 = .ok (.aload_n 0, 1) from by decide +kernel) rfl
theorem m19_25 : M19 25 ls (.ref b :: st) (put b pre s A post) Q = M19 28 ls (.ref (b + 13) :: st) (put b pre s A post) Q := w_get (show decode kb19 25 = .ok (.getfield 46, 3) from by decide +kernel) gf_46 put_o rfl
theorem m19_28 : M19 28 [l0, l1, .val (.int v)] st H Q = M19 29 [l0, l1, .val (.int v)] (.int v :: st) H Q := w_x (show decode kb19 28 = .ok (.iload_n 2, 1) from by decide +kernel) rfl
theorem m19_29  : M19 29 ls (.int j :: .ref (b + 13) :: st) (put b pre s A post) Q = (inB j (A 12) ∧ M19 30 ls (.int (getA (A 12) j) :: st) (put b pre s A post) Q) := w_ild (show decode kb19 29 = .ok (.iaload, 1) from by decide +kernel) rfl put_a12
theorem m19_30  : M19 30 ls (.int v :: .int j :: .ref (b + 8) :: st) (put b pre s A post) Q = (inB j (A 7) ∧ M19 31 ls st (put b pre s (ou A 7 (setA (A 7) j v)) post) Q) := w_ist (show decode kb19 30 = .ok (.iastore, 1) from by decide +kernel) rfl put_a7 (Nat.zero_le _) rfl put_w7
theorem m19_31 : M19 31 [l0, l1, .val (.int v)] st H Q = M19 34 [l0, l1, .val (.int (v + 1))] st H Q := w_iinc (show decode kb19 31 = .ok (.iinc 2 1, 3) from by decide +kernel) rfl (by decide) rfl
theorem m19_34 : M19 34 ls st H Q = M19 2 ls st H Q := w_x (show decode kb19 34 = .ok (.goto (-32), 3) from by decide +kernel) rfl
theorem m19_37 : M19 37 ls st H Q = M19 38 ls (.int 0 :: st) H Q := w_con (show decode kb19 37 = .ok (.iconst 0, 1) from by decide +kernel) rfl (by decide)
theorem m19_38i : M19 38 [l0, l1, .val (.int z)] ((.int v) :: st) H Q = M19 39 [l0, l1, .val (.int v)] st H Q := w_st (i := 2) (p := isI) (show decode kb19 38 = .ok (.istore_n 2, 1) from by decide +kernel) rfl rfl rfl rfl rfl rfl
theorem m19_39 : M19 39 [l0, l1, .val (.int v)] st H Q = M19 40 [l0, l1, .val (.int v)] (.int v :: st) H Q := w_x (show decode kb19 39 = .ok (.iload_n 2, 1) from by decide +kernel) rfl
theorem m19_40 : M19 40 ls st H Q = M19 41 ls (.int 4 :: st) H Q := w_con (show decode kb19 40 = .ok (.iconst 4, 1) from by decide +kernel) rfl (by decide)
theorem m19_41 : M19 41 ls (.int y :: .int x :: st) H Q = if x < y then M19 44 ls st H Q else M19 62 ls st H Q := w_icmpN (show decode kb19 41 = .ok (.if_icmp .ge 21, 3) from by decide +kernel) (i_ge x y) rfl
theorem m19_44 : M19 44 [.val (.ref r), l1, l2] st H Q = M19 45 [.val (.ref r), l1, l2] (.ref r :: st) H Q := w_x (show decode kb19 44 = .ok (.aload_n 0, 1) from by decide +kernel) rfl
theorem m19_45 : M19 45 ls (.ref b :: st) (put b pre s A post) Q = M19 48 ls (.ref (b + 9) :: st) (put b pre s A post) Q := w_get (show decode kb19 45 = .ok (.getfield 34, 3) from by decide +kernel) gf_34 put_o rfl
theorem m19_48 : M19 48 [l0, l1, .val (.int v)] st H Q = M19 49 [l0, l1, .val (.int v)] (.int v :: st) H Q := w_x (show decode kb19 48 = .ok (.iload_n 2, 1) from by decide +kernel) rfl
theorem m19_49 : M19 49 [.val (.ref r), l1, l2] st H Q = M19 50 [.val (.ref r), l1, l2] (.ref r :: st) H Q := w_x (show decode kb19 49 = .ok (.aload_n 0, 1) from by decide +kernel) rfl
theorem m19_50 : M19 50 ls (.ref b :: st) (put b pre s A post) Q = M19 53 ls (.ref (b + 12) :: st) (put b pre s A post) Q := w_get (show decode kb19 50 = .ok (.getfield 43, 3) from by decide +kernel) gf_43 put_o rfl
theorem m19_53 : M19 53 [l0, l1, .val (.int v)] st H Q = M19 54 [l0, l1, .val (.int v)] (.int v :: st) H Q := w_x (show decode kb19 53 = .ok (.iload_n 2, 1) from by decide +kernel) rfl
theorem m19_54  : M19 54 ls (.int j :: .ref (b + 12) :: st) (put b pre s A post) Q = (inB j (A 11) ∧ M19 55 ls (.int (getA (A 11) j) :: st) (put b pre s A post) Q) := w_ild (show decode kb19 54 = .ok (.iaload, 1) from by decide +kernel) rfl put_a11
theorem m19_55  : M19 55 ls (.int v :: .int j :: .ref (b + 9) :: st) (put b pre s A post) Q = (inB j (A 8) ∧ M19 56 ls st (put b pre s (ou A 8 (setA (A 8) j v)) post) Q) := w_ist (show decode kb19 55 = .ok (.iastore, 1) from by decide +kernel) rfl put_a8 (Nat.zero_le _) rfl put_w8
theorem m19_56 : M19 56 [l0, l1, .val (.int v)] st H Q = M19 59 [l0, l1, .val (.int (v + 1))] st H Q := w_iinc (show decode kb19 56 = .ok (.iinc 2 1, 3) from by decide +kernel) rfl (by decide) rfl
theorem m19_59 : M19 59 ls st H Q = M19 39 ls st H Q := w_x (show decode kb19 59 = .ok (.goto (-20), 3) from by decide +kernel) rfl
theorem m19_62 : M19 62 ls [] H Q = Q none H := w_vret (show decode kb19 62 = .ok (.return_, 1) from by decide +kernel) rfl
theorem m20_0 : M20 0 ls st H Q = M20 3 ls (.ref H.length :: st) (H ++ [(.object "ResponseTimeGate", D0)]) Q := (w_new (C := "ResponseTimeGate") at_0 (by rw [hNew, show rCls tables_1 y20.cls 7 = some "ResponseTimeGate" from by decide +kernel]; dsimp only; rw [if_pos (by decide +kernel)])).trans (by rw [lay0]; rfl)
theorem m20_3 : M20 3 ls ((.ref r) :: st) H Q = M20 4 ls ((.ref r) :: (.ref r) :: st) H Q := w_x at_3 rfl
theorem m20_4 : M20 4 [.val (.int v), l1, l2, l3, l4, l5, l6, l7, l8, l9, l10, l11, l12] st H Q = M20 5 [.val (.int v), l1, l2, l3, l4, l5, l6, l7, l8, l9, l10, l11, l12] (.int v :: st) H Q := w_x at_4 rfl
theorem cr20_9 : nR tables_1 dn y20 9 = some (y0, prog_1_method_1_code, 4, none, 1, 42) := nR_of (cR_of (by decide +kernel) rc_0 dn_0 dn_20 (sig := ⟨[.int], none⟩) (by decide +kernel) (by decide +kernel) rfl rfl) rfl (by decide +kernel) rfl
theorem cr20_9_o : oR tables_1 dn y20 9 = none := by decide +kernel
theorem m20_5 (a0 : Int32) (u0 : Nat) : M20 5 ls [.int a0, .ref r, .ref u0] H Q = M0 0 [.val (.ref r), .val (.int a0), .unset, .unset] [] H (fun v H1 => M20 8 ls (v.toList ++ [.ref u0]) H1 Q) := w_spec (as := [.int a0]) (rest := [.ref u0]) (a := r) at_5 cr20_9_o cr20_9 rfl (Nat.le_of_ble_eq_true rfl) (by show 2 ≤ 4; omega) rfl
theorem m20_8u : M20 8 [l0, l1, l2, l3, l4, .unset, l6, l7, l8, l9, l10, l11, l12] ((.ref r) :: st) H Q = M20 10 [l0, l1, l2, l3, l4, .val (.ref r), l6, l7, l8, l9, l10, l11, l12] st H Q := w_st (i := 5) (p := Value.isRef) at_8 rfl rfl rfl rfl rfl rfl
theorem m20_10 : M20 10 [.val (.int v), l1, l2, l3, l4, l5, l6, l7, l8, l9, l10, l11, l12] st H Q = M20 11 [.val (.int v), l1, l2, l3, l4, l5, l6, l7, l8, l9, l10, l11, l12] (.int v :: st) H Q := w_x at_10 rfl
theorem m20_11 : M20 11 ls st H Q = M20 12 ls (.int 1 :: st) H Q := w_con at_11 rfl (by decide)
theorem m20_12 : M20 12 ls (.int y :: .int x :: st) H Q = if x < y then M20 15 ls st H Q else M20 19 ls st H Q := w_icmpN at_12 (i_ge x y) rfl
theorem m20_15 : M20 15 ls st H Q = M20 16 ls (.int 1 :: st) H Q := w_con at_15 rfl (by decide)
theorem m20_16 : M20 16 ls st H Q = M20 31 ls st H Q := w_x at_16 rfl
theorem m20_19 : M20 19 [.val (.int v), l1, l2, l3, l4, l5, l6, l7, l8, l9, l10, l11, l12] st H Q = M20 20 [.val (.int v), l1, l2, l3, l4, l5, l6, l7, l8, l9, l10, l11, l12] (.int v :: st) H Q := w_x at_19 rfl
theorem m20_20 : M20 20 ls st H Q = M20 22 ls (.int 8 :: st) H Q := w_con at_20 rfl (by decide)
theorem m20_22 : M20 22 ls (.int y :: .int x :: st) H Q = if y < x then M20 25 ls st H Q else M20 30 ls st H Q := w_icmpN at_22 (i_le x y) rfl
theorem m20_25 : M20 25 ls st H Q = M20 27 ls (.int 8 :: st) H Q := w_con at_25 rfl (by decide)
theorem m20_27 : M20 27 ls st H Q = M20 31 ls st H Q := w_x at_27 rfl
theorem m20_30 : M20 30 [.val (.int v), l1, l2, l3, l4, l5, l6, l7, l8, l9, l10, l11, l12] st H Q = M20 31 [.val (.int v), l1, l2, l3, l4, l5, l6, l7, l8, l9, l10, l11, l12] (.int v :: st) H Q := w_x at_30 rfl
theorem m20_31u : M20 31 [l0, l1, l2, l3, l4, l5, .unset, l7, l8, l9, l10, l11, l12] ((.int v) :: st) H Q = M20 33 [l0, l1, l2, l3, l4, l5, .val (.int v), l7, l8, l9, l10, l11, l12] st H Q := w_st (i := 6) (p := isI) at_31 rfl rfl rfl rfl rfl rfl
theorem m20_33 : M20 33 [l0, .val (.int v), l2, l3, l4, l5, l6, l7, l8, l9, l10, l11, l12] st H Q = M20 34 [l0, .val (.int v), l2, l3, l4, l5, l6, l7, l8, l9, l10, l11, l12] (.int v :: st) H Q := w_x at_33 rfl
theorem m20_34 : M20 34 ls st H Q = M20 35 ls (.int 1 :: st) H Q := w_con at_34 rfl (by decide)
theorem m20_35 : M20 35 ls (.int y :: .int x :: st) H Q = if x < y then M20 65 ls st H Q else M20 38 ls st H Q := w_icmp at_35 (i_lt x y) rfl
theorem m20_38 : M20 38 [l0, .val (.int v), l2, l3, l4, l5, l6, l7, l8, l9, l10, l11, l12] st H Q = M20 39 [l0, .val (.int v), l2, l3, l4, l5, l6, l7, l8, l9, l10, l11, l12] (.int v :: st) H Q := w_x at_38 rfl
theorem m20_39 : M20 39 ls st H Q = M20 42 ls (.int 840 :: st) H Q := w_con at_39 rfl (by decide)
theorem m20_42 : M20 42 ls (.int y :: .int x :: st) H Q = if y < x then M20 65 ls st H Q else M20 45 ls st H Q := w_icmp at_42 (i_gt x y) rfl
theorem m20_45 : M20 45 [l0, l1, .val (.int v), l3, l4, l5, l6, l7, l8, l9, l10, l11, l12] st H Q = M20 46 [l0, l1, .val (.int v), l3, l4, l5, l6, l7, l8, l9, l10, l11, l12] (.int v :: st) H Q := w_x at_45 rfl
theorem m20_46 : M20 46 ls st H Q = M20 47 ls (.int 1 :: st) H Q := w_con at_46 rfl (by decide)
theorem m20_47 : M20 47 ls (.int y :: .int x :: st) H Q = if x < y then M20 65 ls st H Q else M20 50 ls st H Q := w_icmp at_47 (i_lt x y) rfl
theorem m20_50 : M20 50 [l0, l1, .val (.int v), l3, l4, l5, l6, l7, l8, l9, l10, l11, l12] st H Q = M20 51 [l0, l1, .val (.int v), l3, l4, l5, l6, l7, l8, l9, l10, l11, l12] (.int v :: st) H Q := w_x at_50 rfl
theorem m20_51 : M20 51 [l0, .val (.int v), l2, l3, l4, l5, l6, l7, l8, l9, l10, l11, l12] st H Q = M20 52 [l0, .val (.int v), l2, l3, l4, l5, l6, l7, l8, l9, l10, l11, l12] (.int v :: st) H Q := w_x at_51 rfl
theorem m20_52 : M20 52 ls (.int y :: .int x :: st) H Q = if y < x then M20 65 ls st H Q else M20 55 ls st H Q := w_icmp at_52 (i_gt x y) rfl
theorem m20_55 : M20 55 [l0, l1, l2, .val (.int v), l4, l5, l6, l7, l8, l9, l10, l11, l12] st H Q = M20 56 [l0, l1, l2, .val (.int v), l4, l5, l6, l7, l8, l9, l10, l11, l12] (.int v :: st) H Q := w_x at_55 rfl
theorem m20_56 : M20 56 ls st H Q = M20 57 ls (.int 1 :: st) H Q := w_con at_56 rfl (by decide)
theorem m20_57 : M20 57 ls (.int y :: .int x :: st) H Q = if x < y then M20 65 ls st H Q else M20 60 ls st H Q := w_icmp at_57 (i_lt x y) rfl
theorem m20_60 : M20 60 [l0, l1, l2, .val (.int v), l4, l5, l6, l7, l8, l9, l10, l11, l12] st H Q = M20 61 [l0, l1, l2, .val (.int v), l4, l5, l6, l7, l8, l9, l10, l11, l12] (.int v :: st) H Q := w_x at_60 rfl
theorem m20_61 : M20 61 [l0, l1, .val (.int v), l3, l4, l5, l6, l7, l8, l9, l10, l11, l12] st H Q = M20 62 [l0, l1, .val (.int v), l3, l4, l5, l6, l7, l8, l9, l10, l11, l12] (.int v :: st) H Q := w_x at_61 rfl
theorem m20_62 : M20 62 ls (.int y :: .int x :: st) H Q = if y < x then M20 65 ls st H Q else M20 72 ls st H Q := w_icmpN at_62 (i_le x y) rfl
theorem m20_65 : M20 65 ls st H Q = M20 67 ls (.int (-2) :: st) H Q := w_con at_65 rfl (by decide)
theorem m20_67u : M20 67 [l0, l1, l2, l3, l4, l5, l6, .unset, l8, l9, l10, l11, l12] ((.int v) :: st) H Q = M20 69 [l0, l1, l2, l3, l4, l5, l6, .val (.int v), l8, l9, l10, l11, l12] st H Q := w_st (i := 7) (p := isI) at_67 rfl rfl rfl rfl rfl rfl
theorem m20_69 : M20 69 ls st H Q = M20 95 ls st H Q := w_x at_69 rfl
theorem m20_72 : M20 72 [l0, l1, l2, l3, .val (.int v), l5, l6, l7, l8, l9, l10, l11, l12] st H Q = M20 74 [l0, l1, l2, l3, .val (.int v), l5, l6, l7, l8, l9, l10, l11, l12] (.int v :: st) H Q := w_x at_72 rfl
theorem m20_74 : M20 74 ls st H Q = M20 75 ls (.int 1 :: st) H Q := w_con at_74 rfl (by decide)
theorem m20_75 : M20 75 ls (.int y :: .int x :: st) H Q = if x < y then M20 85 ls st H Q else M20 78 ls st H Q := w_icmp at_75 (i_lt x y) rfl
theorem m20_78 : M20 78 [l0, l1, l2, l3, .val (.int v), l5, l6, l7, l8, l9, l10, l11, l12] st H Q = M20 80 [l0, l1, l2, l3, .val (.int v), l5, l6, l7, l8, l9, l10, l11, l12] (.int v :: st) H Q := w_x at_78 rfl
theorem m20_80 : M20 80 ls st H Q = M20 82 ls (.int 63 :: st) H Q := w_con at_80 rfl (by decide)
theorem m20_82 : M20 82 ls (.int y :: .int x :: st) H Q = if y < x then M20 85 ls st H Q else M20 92 ls st H Q := w_icmpN at_82 (i_le x y) rfl
theorem m20_85 : M20 85 ls st H Q = M20 87 ls (.int (-3) :: st) H Q := w_con at_85 rfl (by decide)
theorem m20_87u : M20 87 [l0, l1, l2, l3, l4, l5, l6, .unset, l8, l9, l10, l11, l12] ((.int v) :: st) H Q = M20 89 [l0, l1, l2, l3, l4, l5, l6, .val (.int v), l8, l9, l10, l11, l12] st H Q := w_st (i := 7) (p := isI) at_87 rfl rfl rfl rfl rfl rfl
theorem m20_89 : M20 89 ls st H Q = M20 95 ls st H Q := w_x at_89 rfl
theorem m20_92 : M20 92 ls st H Q = M20 93 ls (.int 0 :: st) H Q := w_con at_92 rfl (by decide)
theorem m20_93u : M20 93 [l0, l1, l2, l3, l4, l5, l6, .unset, l8, l9, l10, l11, l12] ((.int v) :: st) H Q = M20 95 [l0, l1, l2, l3, l4, l5, l6, .val (.int v), l8, l9, l10, l11, l12] st H Q := w_st (i := 7) (p := isI) at_93 rfl rfl rfl rfl rfl rfl
theorem m20_95 : M20 95 [l0, l1, l2, l3, l4, .val (.ref r), l6, l7, l8, l9, l10, l11, l12] st H Q = M20 97 [l0, l1, l2, l3, l4, .val (.ref r), l6, l7, l8, l9, l10, l11, l12] (.ref r :: st) H Q := w_x at_95 rfl
theorem m20_97 : M20 97 [l0, .val (.int v), l2, l3, l4, l5, l6, l7, l8, l9, l10, l11, l12] st H Q = M20 98 [l0, .val (.int v), l2, l3, l4, l5, l6, l7, l8, l9, l10, l11, l12] (.int v :: st) H Q := w_x at_97 rfl
theorem m20_98 : M20 98 [l0, l1, .val (.int v), l3, l4, l5, l6, l7, l8, l9, l10, l11, l12] st H Q = M20 99 [l0, l1, .val (.int v), l3, l4, l5, l6, l7, l8, l9, l10, l11, l12] (.int v :: st) H Q := w_x at_98 rfl
theorem m20_99 : M20 99 [l0, l1, l2, .val (.int v), l4, l5, l6, l7, l8, l9, l10, l11, l12] st H Q = M20 100 [l0, l1, l2, .val (.int v), l4, l5, l6, l7, l8, l9, l10, l11, l12] (.int v :: st) H Q := w_x at_99 rfl
theorem m20_100 : M20 100 [l0, l1, l2, l3, .val (.int v), l5, l6, l7, l8, l9, l10, l11, l12] st H Q = M20 102 [l0, l1, l2, l3, .val (.int v), l5, l6, l7, l8, l9, l10, l11, l12] (.int v :: st) H Q := w_x at_100 rfl
theorem cr20_12 : vR tables_1 dn y20 12 = some (false, y2, prog_1_method_2_code, 6, (some .int), 4, 39) := vR_of (cR_of (by decide +kernel) rc_2 dn_2 dn_20 (sig := ⟨[.int, .int, .int, .int], some .int⟩) (by decide +kernel) (by decide +kernel) rfl rfl) (by decide +kernel) (by decide +kernel) (by decide +kernel)
theorem m20_102 (a0 : Int32) (a1 : Int32) (a2 : Int32) (a3 : Int32) : M20 102 ls [.int a3, .int a2, .int a1, .int a0, .ref b] (put b pre s A post) Q = M2 0 [.val (.ref b), .val (.int a0), .val (.int a1), .val (.int a2), .val (.int a3), .unset] [] (put b pre s A post) (fun v H1 => M20 105 ls (v.toList ++ []) H1 Q) := w_virt (as := [.int a3, .int a2, .int a1, .int a0]) (rest := []) (a := b) at_102 cr20_12 put_o rfl rfl (Nat.le_of_ble_eq_true rfl) (by show 5 ≤ 6; omega) rfl
theorem m20_105u : M20 105 [l0, l1, l2, l3, l4, l5, l6, l7, .unset, l9, l10, l11, l12] ((.int v) :: st) H Q = M20 107 [l0, l1, l2, l3, l4, l5, l6, l7, .val (.int v), l9, l10, l11, l12] st H Q := w_st (i := 8) (p := isI) at_105 rfl rfl rfl rfl rfl rfl
theorem m20_107 : M20 107 [l0, l1, l2, l3, l4, l5, l6, l7, .val (.int v), l9, l10, l11, l12] st H Q = M20 109 [l0, l1, l2, l3, l4, l5, l6, l7, .val (.int v), l9, l10, l11, l12] (.int v :: st) H Q := w_x at_107 rfl
theorem m20_109 : M20 109 [l0, l1, l2, l3, l4, l5, l6, .val (.int v), l8, l9, l10, l11, l12] st H Q = M20 111 [l0, l1, l2, l3, l4, l5, l6, .val (.int v), l8, l9, l10, l11, l12] (.int v :: st) H Q := w_x at_109 rfl
theorem m20_111 : M20 111 ls (.int y :: .int x :: st) H Q = if x = y then M20 116 ls st H Q else M20 114 ls st H Q := w_icmp at_111 (i_eq x y) rfl
theorem m20_114 : M20 114 ls st H Q = M20 115 ls (.int 0 :: st) H Q := w_con at_114 rfl (by decide)
theorem m20_115 : M20 115 ls (.int z :: st) H Q = Q (some (.int (nar .boolean z))) H := w_iretN at_115 rfl (by simp)
theorem m20_116 : M20 116 [l0, l1, l2, l3, l4, l5, l6, .val (.int v), l8, l9, l10, l11, l12] st H Q = M20 118 [l0, l1, l2, l3, l4, l5, l6, .val (.int v), l8, l9, l10, l11, l12] (.int v :: st) H Q := w_x at_116 rfl
theorem m20_118 : M20 118 ls (.int x :: st) H Q = if x = 0 then M20 121 ls st H Q else M20 125 ls st H Q := w_ifN at_118 (z_ne x) rfl
theorem m20_121 : M20 121 ls st H Q = M20 122 ls (.int 1 :: st) H Q := w_con at_121 rfl (by decide)
theorem m20_122 : M20 122 ls st H Q = M20 126 ls st H Q := w_x at_122 rfl
theorem m20_125 : M20 125 ls st H Q = M20 126 ls (.int 0 :: st) H Q := w_con at_125 rfl (by decide)
theorem m20_126u : M20 126 [l0, l1, l2, l3, l4, l5, l6, l7, l8, .unset, l10, l11, l12] ((.int v) :: st) H Q = M20 128 [l0, l1, l2, l3, l4, l5, l6, l7, l8, .val (.int v), l10, l11, l12] st H Q := w_st (i := 9) (p := isI) at_126 rfl rfl rfl rfl rfl rfl
theorem m20_128 : M20 128 [l0, l1, l2, l3, l4, .val (.ref r), l6, l7, l8, l9, l10, l11, l12] st H Q = M20 130 [l0, l1, l2, l3, l4, .val (.ref r), l6, l7, l8, l9, l10, l11, l12] (.ref r :: st) H Q := w_x at_128 rfl
theorem cr20_16 : vR tables_1 dn y20 16 = some (false, y3, prog_1_method_6_code, 4, (some .int), 0, 0) := vR_of (cR_of (by decide +kernel) rc_3 dn_3 dn_20 (sig := ⟨[], some .int⟩) (by decide +kernel) (by decide +kernel) rfl rfl) (by decide +kernel) (by decide +kernel) (by decide +kernel)
theorem m20_130 : M20 130 ls [.ref b] (put b pre s A post) Q = M3 0 [.val (.ref b), .unset, .unset, .unset] [] (put b pre s A post) (fun v H1 => M20 133 ls (v.toList ++ []) H1 Q) := w_virt (as := []) (rest := []) (a := b) at_130 cr20_16 put_o rfl rfl (Nat.le_of_ble_eq_true rfl) (by show 1 ≤ 4; omega) rfl
theorem m20_133u : M20 133 [l0, l1, l2, l3, l4, l5, l6, l7, l8, l9, .unset, l11, l12] ((.int v) :: st) H Q = M20 135 [l0, l1, l2, l3, l4, l5, l6, l7, l8, l9, .val (.int v), l11, l12] st H Q := w_st (i := 10) (p := isI) at_133 rfl rfl rfl rfl rfl rfl
theorem m20_135 : M20 135 [l0, l1, l2, l3, l4, l5, l6, l7, l8, l9, .val (.int v), l11, l12] st H Q = M20 137 [l0, l1, l2, l3, l4, l5, l6, l7, l8, l9, .val (.int v), l11, l12] (.int v :: st) H Q := w_x at_135 rfl
theorem m20_137 : M20 137 [l0, l1, l2, l3, l4, l5, l6, l7, l8, .val (.int v), l10, l11, l12] st H Q = M20 139 [l0, l1, l2, l3, l4, l5, l6, l7, l8, .val (.int v), l10, l11, l12] (.int v :: st) H Q := w_x at_137 rfl
theorem m20_139 : M20 139 ls (.int x :: st) H Q = if x = 0 then M20 146 ls st H Q else M20 142 ls st H Q := w_if at_139 (z_eq x) rfl
theorem m20_142 : M20 142 ls st H Q = M20 143 ls (.int 0 :: st) H Q := w_con at_142 rfl (by decide)
theorem m20_143 : M20 143 ls st H Q = M20 148 ls st H Q := w_x at_143 rfl
theorem m20_146 : M20 146 ls st H Q = M20 148 ls (.int (-4) :: st) H Q := w_con at_146 rfl (by decide)
theorem m20_148 : M20 148 ls (.int y :: .int x :: st) H Q = if x = y then M20 153 ls st H Q else M20 151 ls st H Q := w_icmp at_148 (i_eq x y) rfl
theorem m20_151 : M20 151 ls st H Q = M20 152 ls (.int 0 :: st) H Q := w_con at_151 rfl (by decide)
theorem m20_152 : M20 152 ls (.int z :: st) H Q = Q (some (.int (nar .boolean z))) H := w_iretN at_152 rfl (by simp)
theorem m20_153 : M20 153 [l0, l1, l2, l3, l4, .val (.ref r), l6, l7, l8, l9, l10, l11, l12] st H Q = M20 155 [l0, l1, l2, l3, l4, .val (.ref r), l6, l7, l8, l9, l10, l11, l12] (.ref r :: st) H Q := w_x at_153 rfl
theorem cr20_20 : vR tables_1 dn y20 20 = some (false, y4, prog_1_method_17_code, 1, (some .int), 0, 58) := vR_of (cR_of (by decide +kernel) rc_4 dn_4 dn_20 (sig := ⟨[], some .int⟩) (by decide +kernel) (by decide +kernel) rfl rfl) (by decide +kernel) (by decide +kernel) (by decide +kernel)
theorem m20_155 : M20 155 ls [.ref b] (put b pre s A post) Q = M4 0 [.val (.ref b)] [] (put b pre s A post) (fun v H1 => M20 158 ls (v.toList ++ []) H1 Q) := w_virt (as := []) (rest := []) (a := b) at_155 cr20_20 put_o rfl rfl (Nat.le_of_ble_eq_true rfl) (by show 1 ≤ 1; omega) rfl
theorem m20_158 : M20 158 [l0, l1, l2, l3, l4, l5, l6, l7, l8, .val (.int v), l10, l11, l12] st H Q = M20 160 [l0, l1, l2, l3, l4, l5, l6, l7, l8, .val (.int v), l10, l11, l12] (.int v :: st) H Q := w_x at_158 rfl
theorem m20_160 : M20 160 ls (.int x :: st) H Q = if x = 0 then M20 167 ls st H Q else M20 163 ls st H Q := w_if at_160 (z_eq x) rfl
theorem m20_163 : M20 163 ls st H Q = M20 164 ls (.int 1 :: st) H Q := w_con at_163 rfl (by decide)
theorem m20_164 : M20 164 ls st H Q = M20 168 ls st H Q := w_x at_164 rfl
theorem m20_167 : M20 167 ls st H Q = M20 168 ls (.int 0 :: st) H Q := w_con at_167 rfl (by decide)
theorem m20_168 : M20 168 ls (.int y :: .int x :: st) H Q = if x = y then M20 173 ls st H Q else M20 171 ls st H Q := w_icmp at_168 (i_eq x y) rfl
theorem m20_171 : M20 171 ls st H Q = M20 172 ls (.int 0 :: st) H Q := w_con at_171 rfl (by decide)
theorem m20_172 : M20 172 ls (.int z :: st) H Q = Q (some (.int (nar .boolean z))) H := w_iretN at_172 rfl (by simp)
theorem m20_173 : M20 173 [l0, l1, l2, l3, l4, .val (.ref r), l6, l7, l8, l9, l10, l11, l12] st H Q = M20 175 [l0, l1, l2, l3, l4, .val (.ref r), l6, l7, l8, l9, l10, l11, l12] (.ref r :: st) H Q := w_x at_173 rfl
theorem m20_175 : M20 175 ls st H Q = M20 176 ls (.int 0 :: st) H Q := w_con at_175 rfl (by decide)
theorem cr20_23 : vR tables_1 dn y20 23 = some (false, y5, prog_1_method_18_code, 2, (some .int), 1, 44) := vR_of (cR_of (by decide +kernel) rc_5 dn_5 dn_20 (sig := ⟨[.int], some .int⟩) (by decide +kernel) (by decide +kernel) rfl rfl) (by decide +kernel) (by decide +kernel) (by decide +kernel)
theorem m20_176 (a0 : Int32) : M20 176 ls [.int a0, .ref b] (put b pre s A post) Q = M5 0 [.val (.ref b), .val (.int a0)] [] (put b pre s A post) (fun v H1 => M20 179 ls (v.toList ++ []) H1 Q) := w_virt (as := [.int a0]) (rest := []) (a := b) at_176 cr20_23 put_o rfl rfl (Nat.le_of_ble_eq_true rfl) (by show 2 ≤ 2; omega) rfl
theorem m20_179 : M20 179 [l0, l1, l2, l3, l4, l5, l6, l7, l8, .val (.int v), l10, l11, l12] st H Q = M20 181 [l0, l1, l2, l3, l4, l5, l6, l7, l8, .val (.int v), l10, l11, l12] (.int v :: st) H Q := w_x at_179 rfl
theorem m20_181 : M20 181 ls (.int x :: st) H Q = if x = 0 then M20 188 ls st H Q else M20 184 ls st H Q := w_if at_181 (z_eq x) rfl
theorem m20_184 : M20 184 [l0, l1, l2, .val (.int v), l4, l5, l6, l7, l8, l9, l10, l11, l12] st H Q = M20 185 [l0, l1, l2, .val (.int v), l4, l5, l6, l7, l8, l9, l10, l11, l12] (.int v :: st) H Q := w_x at_184 rfl
theorem m20_185 : M20 185 ls st H Q = M20 189 ls st H Q := w_x at_185 rfl
theorem m20_188 : M20 188 ls st H Q = M20 189 ls (.int (-1) :: st) H Q := w_con at_188 rfl (by decide)
theorem m20_189 : M20 189 ls (.int y :: .int x :: st) H Q = if x = y then M20 194 ls st H Q else M20 192 ls st H Q := w_icmp at_189 (i_eq x y) rfl
theorem m20_192 : M20 192 ls st H Q = M20 193 ls (.int 0 :: st) H Q := w_con at_192 rfl (by decide)
theorem m20_193 : M20 193 ls (.int z :: st) H Q = Q (some (.int (nar .boolean z))) H := w_iretN at_193 rfl (by simp)
theorem m20_194 : M20 194 [l0, l1, l2, l3, l4, .val (.ref r), l6, l7, l8, l9, l10, l11, l12] st H Q = M20 196 [l0, l1, l2, l3, l4, .val (.ref r), l6, l7, l8, l9, l10, l11, l12] (.ref r :: st) H Q := w_x at_194 rfl
theorem m20_196 : M20 196 ls st H Q = M20 197 ls (.int 0 :: st) H Q := w_con at_196 rfl (by decide)
theorem cr20_27 : vR tables_1 dn y20 27 = some (false, y7, prog_1_method_19_code, 2, (some .int), 1, 44) := vR_of (cR_of (by decide +kernel) rc_7 dn_7 dn_20 (sig := ⟨[.int], some .int⟩) (by decide +kernel) (by decide +kernel) rfl rfl) (by decide +kernel) (by decide +kernel) (by decide +kernel)
theorem m20_197 (a0 : Int32) : M20 197 ls [.int a0, .ref b] (put b pre s A post) Q = M7 0 [.val (.ref b), .val (.int a0)] [] (put b pre s A post) (fun v H1 => M20 200 ls (v.toList ++ []) H1 Q) := w_virt (as := [.int a0]) (rest := []) (a := b) at_197 cr20_27 put_o rfl rfl (Nat.le_of_ble_eq_true rfl) (by show 2 ≤ 2; omega) rfl
theorem m20_200 : M20 200 [l0, l1, l2, l3, l4, l5, l6, l7, l8, .val (.int v), l10, l11, l12] st H Q = M20 202 [l0, l1, l2, l3, l4, l5, l6, l7, l8, .val (.int v), l10, l11, l12] (.int v :: st) H Q := w_x at_200 rfl
theorem m20_202 : M20 202 ls (.int x :: st) H Q = if x = 0 then M20 209 ls st H Q else M20 205 ls st H Q := w_if at_202 (z_eq x) rfl
theorem m20_205 : M20 205 ls st H Q = M20 206 ls (.int 0 :: st) H Q := w_con at_205 rfl (by decide)
theorem m20_206 : M20 206 ls st H Q = M20 210 ls st H Q := w_x at_206 rfl
theorem m20_209 : M20 209 ls st H Q = M20 210 ls (.int (-1) :: st) H Q := w_con at_209 rfl (by decide)
theorem m20_210 : M20 210 ls (.int y :: .int x :: st) H Q = if x = y then M20 215 ls st H Q else M20 213 ls st H Q := w_icmp at_210 (i_eq x y) rfl
theorem m20_213 : M20 213 ls st H Q = M20 214 ls (.int 0 :: st) H Q := w_con at_213 rfl (by decide)
theorem m20_214 : M20 214 ls (.int z :: st) H Q = Q (some (.int (nar .boolean z))) H := w_iretN at_214 rfl (by simp)
theorem m20_215 : M20 215 [l0, l1, l2, l3, l4, .val (.ref r), l6, l7, l8, l9, l10, l11, l12] st H Q = M20 217 [l0, l1, l2, l3, l4, .val (.ref r), l6, l7, l8, l9, l10, l11, l12] (.ref r :: st) H Q := w_x at_215 rfl
theorem cr20_30 : vR tables_1 dn y20 30 = some (false, y8, prog_1_method_21_code, 1, (some .int), 0, 58) := vR_of (cR_of (by decide +kernel) rc_8 dn_8 dn_20 (sig := ⟨[], some .int⟩) (by decide +kernel) (by decide +kernel) rfl rfl) (by decide +kernel) (by decide +kernel) (by decide +kernel)
theorem m20_217 : M20 217 ls [.ref b] (put b pre s A post) Q = M8 0 [.val (.ref b)] [] (put b pre s A post) (fun v H1 => M20 220 ls (v.toList ++ []) H1 Q) := w_virt (as := []) (rest := []) (a := b) at_217 cr20_30 put_o rfl rfl (Nat.le_of_ble_eq_true rfl) (by show 1 ≤ 1; omega) rfl
theorem m20_220 : M20 220 [l0, l1, l2, l3, l4, l5, l6, l7, l8, .val (.int v), l10, l11, l12] st H Q = M20 222 [l0, l1, l2, l3, l4, l5, l6, l7, l8, .val (.int v), l10, l11, l12] (.int v :: st) H Q := w_x at_220 rfl
theorem m20_222 : M20 222 ls (.int x :: st) H Q = if x = 0 then M20 229 ls st H Q else M20 225 ls st H Q := w_if at_222 (z_eq x) rfl
theorem m20_225 : M20 225 [l0, .val (.int v), l2, l3, l4, l5, l6, l7, l8, l9, l10, l11, l12] st H Q = M20 226 [l0, .val (.int v), l2, l3, l4, l5, l6, l7, l8, l9, l10, l11, l12] (.int v :: st) H Q := w_x at_225 rfl
theorem m20_226 : M20 226 ls st H Q = M20 230 ls st H Q := w_x at_226 rfl
theorem m20_229 : M20 229 ls st H Q = M20 230 ls (.int 1 :: st) H Q := w_con at_229 rfl (by decide)
theorem m20_230 : M20 230 ls (.int y :: .int x :: st) H Q = if x = y then M20 235 ls st H Q else M20 233 ls st H Q := w_icmp at_230 (i_eq x y) rfl
theorem m20_233 : M20 233 ls st H Q = M20 234 ls (.int 0 :: st) H Q := w_con at_233 rfl (by decide)
theorem m20_234 : M20 234 ls (.int z :: st) H Q = Q (some (.int (nar .boolean z))) H := w_iretN at_234 rfl (by simp)
theorem m20_235 : M20 235 [l0, l1, l2, l3, l4, .val (.ref r), l6, l7, l8, l9, l10, l11, l12] st H Q = M20 237 [l0, l1, l2, l3, l4, .val (.ref r), l6, l7, l8, l9, l10, l11, l12] (.ref r :: st) H Q := w_x at_235 rfl
theorem cr20_33 : vR tables_1 dn y20 33 = some (false, y9, prog_1_method_22_code, 1, (some .int), 0, 58) := vR_of (cR_of (by decide +kernel) rc_9 dn_9 dn_20 (sig := ⟨[], some .int⟩) (by decide +kernel) (by decide +kernel) rfl rfl) (by decide +kernel) (by decide +kernel) (by decide +kernel)
theorem m20_237 : M20 237 ls [.ref b] (put b pre s A post) Q = M9 0 [.val (.ref b)] [] (put b pre s A post) (fun v H1 => M20 240 ls (v.toList ++ []) H1 Q) := w_virt (as := []) (rest := []) (a := b) at_237 cr20_33 put_o rfl rfl (Nat.le_of_ble_eq_true rfl) (by show 1 ≤ 1; omega) rfl
theorem m20_240 : M20 240 ls st H Q = M20 241 ls (.int (-1) :: st) H Q := w_con at_240 rfl (by decide)
theorem m20_241 : M20 241 ls (.int y :: .int x :: st) H Q = if x = y then M20 246 ls st H Q else M20 244 ls st H Q := w_icmp at_241 (i_eq x y) rfl
theorem m20_244 : M20 244 ls st H Q = M20 245 ls (.int 0 :: st) H Q := w_con at_244 rfl (by decide)
theorem m20_245 : M20 245 ls (.int z :: st) H Q = Q (some (.int (nar .boolean z))) H := w_iretN at_245 rfl (by simp)
theorem m20_246 : M20 246 [l0, l1, l2, l3, l4, .val (.ref r), l6, l7, l8, l9, l10, l11, l12] st H Q = M20 248 [l0, l1, l2, l3, l4, .val (.ref r), l6, l7, l8, l9, l10, l11, l12] (.ref r :: st) H Q := w_x at_246 rfl
theorem m20_248 : M20 248 ls [.ref b] (put b pre s A post) Q = M3 0 [.val (.ref b), .unset, .unset, .unset] [] (put b pre s A post) (fun v H1 => M20 251 ls (v.toList ++ []) H1 Q) := w_virt (as := []) (rest := []) (a := b) at_248 cr20_16 put_o rfl rfl (Nat.le_of_ble_eq_true rfl) (by show 1 ≤ 4; omega) rfl
theorem m20_251 : M20 251 ls st H Q = M20 253 ls (.int (-4) :: st) H Q := w_con at_251 rfl (by decide)
theorem m20_253 : M20 253 ls (.int y :: .int x :: st) H Q = if x = y then M20 258 ls st H Q else M20 256 ls st H Q := w_icmp at_253 (i_eq x y) rfl
theorem m20_256 : M20 256 ls st H Q = M20 257 ls (.int 0 :: st) H Q := w_con at_256 rfl (by decide)
theorem m20_257 : M20 257 ls (.int z :: st) H Q = Q (some (.int (nar .boolean z))) H := w_iretN at_257 rfl (by simp)
theorem m20_258 : M20 258 [l0, l1, l2, l3, l4, .val (.ref r), l6, l7, l8, l9, l10, l11, l12] st H Q = M20 260 [l0, l1, l2, l3, l4, .val (.ref r), l6, l7, l8, l9, l10, l11, l12] (.ref r :: st) H Q := w_x at_258 rfl
theorem m20_260 : M20 260 [l0, .val (.int v), l2, l3, l4, l5, l6, l7, l8, l9, l10, l11, l12] st H Q = M20 261 [l0, .val (.int v), l2, l3, l4, l5, l6, l7, l8, l9, l10, l11, l12] (.int v :: st) H Q := w_x at_260 rfl
theorem m20_261 : M20 261 [l0, l1, .val (.int v), l3, l4, l5, l6, l7, l8, l9, l10, l11, l12] st H Q = M20 262 [l0, l1, .val (.int v), l3, l4, l5, l6, l7, l8, l9, l10, l11, l12] (.int v :: st) H Q := w_x at_261 rfl
theorem m20_262 : M20 262 [l0, l1, l2, .val (.int v), l4, l5, l6, l7, l8, l9, l10, l11, l12] st H Q = M20 263 [l0, l1, l2, .val (.int v), l4, l5, l6, l7, l8, l9, l10, l11, l12] (.int v :: st) H Q := w_x at_262 rfl
theorem m20_263 : M20 263 [l0, l1, l2, l3, .val (.int v), l5, l6, l7, l8, l9, l10, l11, l12] st H Q = M20 265 [l0, l1, l2, l3, .val (.int v), l5, l6, l7, l8, l9, l10, l11, l12] (.int v :: st) H Q := w_x at_263 rfl
theorem m20_265 (a0 : Int32) (a1 : Int32) (a2 : Int32) (a3 : Int32) : M20 265 ls [.int a3, .int a2, .int a1, .int a0, .ref b] (put b pre s A post) Q = M2 0 [.val (.ref b), .val (.int a0), .val (.int a1), .val (.int a2), .val (.int a3), .unset] [] (put b pre s A post) (fun v H1 => M20 268 ls (v.toList ++ []) H1 Q) := w_virt (as := [.int a3, .int a2, .int a1, .int a0]) (rest := []) (a := b) at_265 cr20_12 put_o rfl rfl (Nat.le_of_ble_eq_true rfl) (by show 5 ≤ 6; omega) rfl
theorem m20_268u : M20 268 [l0, l1, l2, l3, l4, l5, l6, l7, l8, l9, l10, .unset, l12] ((.int v) :: st) H Q = M20 270 [l0, l1, l2, l3, l4, l5, l6, l7, l8, l9, l10, .val (.int v), l12] st H Q := w_st (i := 11) (p := isI) at_268 rfl rfl rfl rfl rfl rfl
theorem m20_270 : M20 270 [l0, l1, l2, l3, l4, l5, l6, l7, l8, .val (.int v), l10, l11, l12] st H Q = M20 272 [l0, l1, l2, l3, l4, l5, l6, l7, l8, .val (.int v), l10, l11, l12] (.int v :: st) H Q := w_x at_270 rfl
theorem m20_272 : M20 272 ls (.int x :: st) H Q = if x = 0 then M20 290 ls st H Q else M20 275 ls st H Q := w_if at_272 (z_eq x) rfl
theorem m20_275 : M20 275 [l0, l1, l2, l3, l4, l5, .val (.int v), l7, l8, l9, l10, l11, l12] st H Q = M20 277 [l0, l1, l2, l3, l4, l5, .val (.int v), l7, l8, l9, l10, l11, l12] (.int v :: st) H Q := w_x at_275 rfl
theorem m20_277 : M20 277 ls st H Q = M20 278 ls (.int 1 :: st) H Q := w_con at_277 rfl (by decide)
theorem m20_278 : M20 278 ls (.int y :: .int x :: st) H Q = if x = y then M20 281 ls st H Q else M20 285 ls st H Q := w_icmpN at_278 (i_ne x y) rfl
theorem m20_281 : M20 281 ls st H Q = M20 282 ls (.int (-1) :: st) H Q := w_con at_281 rfl (by decide)
theorem m20_282 : M20 282 ls st H Q = M20 292 ls st H Q := w_x at_282 rfl
theorem m20_285 : M20 285 ls st H Q = M20 287 ls (.int (-3) :: st) H Q := w_con at_285 rfl (by decide)
theorem m20_287 : M20 287 ls st H Q = M20 292 ls st H Q := w_x at_287 rfl
theorem m20_290 : M20 290 [l0, l1, l2, l3, l4, l5, l6, .val (.int v), l8, l9, l10, l11, l12] st H Q = M20 292 [l0, l1, l2, l3, l4, l5, l6, .val (.int v), l8, l9, l10, l11, l12] (.int v :: st) H Q := w_x at_290 rfl
theorem m20_292u : M20 292 [l0, l1, l2, l3, l4, l5, l6, l7, l8, l9, l10, l11, .unset] ((.int v) :: st) H Q = M20 294 [l0, l1, l2, l3, l4, l5, l6, l7, l8, l9, l10, l11, .val (.int v)] st H Q := w_st (i := 12) (p := isI) at_292 rfl rfl rfl rfl rfl rfl
theorem m20_294 : M20 294 [l0, l1, l2, l3, l4, l5, l6, l7, l8, l9, l10, .val (.int v), l12] st H Q = M20 296 [l0, l1, l2, l3, l4, l5, l6, l7, l8, l9, l10, .val (.int v), l12] (.int v :: st) H Q := w_x at_294 rfl
theorem m20_296 : M20 296 [l0, l1, l2, l3, l4, l5, l6, l7, l8, l9, l10, l11, .val (.int v)] st H Q = M20 298 [l0, l1, l2, l3, l4, l5, l6, l7, l8, l9, l10, l11, .val (.int v)] (.int v :: st) H Q := w_x at_296 rfl
theorem m20_298 : M20 298 ls (.int y :: .int x :: st) H Q = if x = y then M20 301 ls st H Q else M20 305 ls st H Q := w_icmpN at_298 (i_ne x y) rfl
theorem m20_301 : M20 301 ls st H Q = M20 302 ls (.int 1 :: st) H Q := w_con at_301 rfl (by decide)
theorem m20_302 : M20 302 ls st H Q = M20 306 ls st H Q := w_x at_302 rfl
theorem m20_305 : M20 305 ls st H Q = M20 306 ls (.int 0 :: st) H Q := w_con at_305 rfl (by decide)
theorem m20_306 : M20 306 ls (.int z :: st) H Q = Q (some (.int (nar .boolean z))) H := w_iretN at_306 rfl (by simp)
theorem pf0_7 : pfR tables_1 y0.cls y0.name 7 = some ("ResponseTimeGate", 0, .array .int) := by decide +kernel
theorem m0_4a (hH : H.length = b) {vs : List Value} {r : AHeap} (hj : 0 < vs.length) : M0 4 (.val (.ref b) :: [l1, l2, l3]) [] (H ++ (.object "ResponseTimeGate", vs) :: r) Q = M0 12 (.val (.ref b) :: [l1, l2, l3]) [] (H ++ (.object "ResponseTimeGate", vs.set 0 (.ref (b + (r.length + 1)))) :: (r ++ [(.array .int, List.replicate 9 (.int 0))])) Q := w_iarr (n := 9) rfl hH (Nat.zero_le _) (show decode kb0 4 = .ok (.aload_n 0, 1) from by decide +kernel) rfl (show decode kb0 5 = .ok (.bipush 9, 2) from by decide +kernel) (fun _ => rfl) (by decide) (show decode kb0 7 = .ok (.newarray .int, 2) from by decide +kernel) rfl (by decide +kernel) (by decide) (by decide) rfl (show decode kb0 9 = .ok (.putfield 7, 3) from by decide +kernel) pf0_7 hj
theorem pf0_13 : pfR tables_1 y0.cls y0.name 13 = some ("ResponseTimeGate", 1, .array .int) := by decide +kernel
theorem m0_12a (hH : H.length = b) {vs : List Value} {r : AHeap} (hj : 1 < vs.length) : M0 12 (.val (.ref b) :: [l1, l2, l3]) [] (H ++ (.object "ResponseTimeGate", vs) :: r) Q = M0 20 (.val (.ref b) :: [l1, l2, l3]) [] (H ++ (.object "ResponseTimeGate", vs.set 1 (.ref (b + (r.length + 1)))) :: (r ++ [(.array .int, List.replicate 9 (.int 0))])) Q := w_iarr (n := 9) rfl hH (Nat.zero_le _) (show decode kb0 12 = .ok (.aload_n 0, 1) from by decide +kernel) rfl (show decode kb0 13 = .ok (.bipush 9, 2) from by decide +kernel) (fun _ => rfl) (by decide) (show decode kb0 15 = .ok (.newarray .int, 2) from by decide +kernel) rfl (by decide +kernel) (by decide) (by decide) rfl (show decode kb0 17 = .ok (.putfield 13, 3) from by decide +kernel) pf0_13 hj
theorem pf0_16 : pfR tables_1 y0.cls y0.name 16 = some ("ResponseTimeGate", 2, .array .int) := by decide +kernel
theorem m0_20a (hH : H.length = b) {vs : List Value} {r : AHeap} (hj : 2 < vs.length) : M0 20 (.val (.ref b) :: [l1, l2, l3]) [] (H ++ (.object "ResponseTimeGate", vs) :: r) Q = M0 28 (.val (.ref b) :: [l1, l2, l3]) [] (H ++ (.object "ResponseTimeGate", vs.set 2 (.ref (b + (r.length + 1)))) :: (r ++ [(.array .int, List.replicate 9 (.int 0))])) Q := w_iarr (n := 9) rfl hH (Nat.zero_le _) (show decode kb0 20 = .ok (.aload_n 0, 1) from by decide +kernel) rfl (show decode kb0 21 = .ok (.bipush 9, 2) from by decide +kernel) (fun _ => rfl) (by decide) (show decode kb0 23 = .ok (.newarray .int, 2) from by decide +kernel) rfl (by decide +kernel) (by decide) (by decide) rfl (show decode kb0 25 = .ok (.putfield 16, 3) from by decide +kernel) pf0_16 hj
theorem pf0_19 : pfR tables_1 y0.cls y0.name 19 = some ("ResponseTimeGate", 3, .array .int) := by decide +kernel
theorem m0_28a (hH : H.length = b) {vs : List Value} {r : AHeap} (hj : 3 < vs.length) : M0 28 (.val (.ref b) :: [l1, l2, l3]) [] (H ++ (.object "ResponseTimeGate", vs) :: r) Q = M0 36 (.val (.ref b) :: [l1, l2, l3]) [] (H ++ (.object "ResponseTimeGate", vs.set 3 (.ref (b + (r.length + 1)))) :: (r ++ [(.array .int, List.replicate 9 (.int 0))])) Q := w_iarr (n := 9) rfl hH (Nat.zero_le _) (show decode kb0 28 = .ok (.aload_n 0, 1) from by decide +kernel) rfl (show decode kb0 29 = .ok (.bipush 9, 2) from by decide +kernel) (fun _ => rfl) (by decide) (show decode kb0 31 = .ok (.newarray .int, 2) from by decide +kernel) rfl (by decide +kernel) (by decide) (by decide) rfl (show decode kb0 33 = .ok (.putfield 19, 3) from by decide +kernel) pf0_19 hj
theorem pf0_22 : pfR tables_1 y0.cls y0.name 22 = some ("ResponseTimeGate", 4, .array .int) := by decide +kernel
theorem m0_36a (hH : H.length = b) {vs : List Value} {r : AHeap} (hj : 4 < vs.length) : M0 36 (.val (.ref b) :: [l1, l2, l3]) [] (H ++ (.object "ResponseTimeGate", vs) :: r) Q = M0 44 (.val (.ref b) :: [l1, l2, l3]) [] (H ++ (.object "ResponseTimeGate", vs.set 4 (.ref (b + (r.length + 1)))) :: (r ++ [(.array .int, List.replicate 36 (.int 0))])) Q := w_iarr (n := 36) rfl hH (Nat.zero_le _) (show decode kb0 36 = .ok (.aload_n 0, 1) from by decide +kernel) rfl (show decode kb0 37 = .ok (.bipush 36, 2) from by decide +kernel) (fun _ => rfl) (by decide) (show decode kb0 39 = .ok (.newarray .int, 2) from by decide +kernel) rfl (by decide +kernel) (by decide) (by decide) rfl (show decode kb0 41 = .ok (.putfield 22, 3) from by decide +kernel) pf0_22 hj
theorem pf0_25 : pfR tables_1 y0.cls y0.name 25 = some ("ResponseTimeGate", 5, .array .int) := by decide +kernel
theorem m0_44a (hH : H.length = b) {vs : List Value} {r : AHeap} (hj : 5 < vs.length) : M0 44 (.val (.ref b) :: [l1, l2, l3]) [] (H ++ (.object "ResponseTimeGate", vs) :: r) Q = M0 52 (.val (.ref b) :: [l1, l2, l3]) [] (H ++ (.object "ResponseTimeGate", vs.set 5 (.ref (b + (r.length + 1)))) :: (r ++ [(.array .int, List.replicate 36 (.int 0))])) Q := w_iarr (n := 36) rfl hH (Nat.zero_le _) (show decode kb0 44 = .ok (.aload_n 0, 1) from by decide +kernel) rfl (show decode kb0 45 = .ok (.bipush 36, 2) from by decide +kernel) (fun _ => rfl) (by decide) (show decode kb0 47 = .ok (.newarray .int, 2) from by decide +kernel) rfl (by decide +kernel) (by decide) (by decide) rfl (show decode kb0 49 = .ok (.putfield 25, 3) from by decide +kernel) pf0_25 hj
theorem pf0_28 : pfR tables_1 y0.cls y0.name 28 = some ("ResponseTimeGate", 6, .array .int) := by decide +kernel
theorem m0_52a (hH : H.length = b) {vs : List Value} {r : AHeap} (hj : 6 < vs.length) : M0 52 (.val (.ref b) :: [l1, l2, l3]) [] (H ++ (.object "ResponseTimeGate", vs) :: r) Q = M0 60 (.val (.ref b) :: [l1, l2, l3]) [] (H ++ (.object "ResponseTimeGate", vs.set 6 (.ref (b + (r.length + 1)))) :: (r ++ [(.array .int, List.replicate 9 (.int 0))])) Q := w_iarr (n := 9) rfl hH (Nat.zero_le _) (show decode kb0 52 = .ok (.aload_n 0, 1) from by decide +kernel) rfl (show decode kb0 53 = .ok (.bipush 9, 2) from by decide +kernel) (fun _ => rfl) (by decide) (show decode kb0 55 = .ok (.newarray .int, 2) from by decide +kernel) rfl (by decide +kernel) (by decide) (by decide) rfl (show decode kb0 57 = .ok (.putfield 28, 3) from by decide +kernel) pf0_28 hj
theorem pf0_31 : pfR tables_1 y0.cls y0.name 31 = some ("ResponseTimeGate", 7, .array .int) := by decide +kernel
theorem m0_60a (hH : H.length = b) {vs : List Value} {r : AHeap} (hj : 7 < vs.length) : M0 60 (.val (.ref b) :: [l1, l2, l3]) [] (H ++ (.object "ResponseTimeGate", vs) :: r) Q = M0 68 (.val (.ref b) :: [l1, l2, l3]) [] (H ++ (.object "ResponseTimeGate", vs.set 7 (.ref (b + (r.length + 1)))) :: (r ++ [(.array .int, List.replicate 9 (.int 0))])) Q := w_iarr (n := 9) rfl hH (Nat.zero_le _) (show decode kb0 60 = .ok (.aload_n 0, 1) from by decide +kernel) rfl (show decode kb0 61 = .ok (.bipush 9, 2) from by decide +kernel) (fun _ => rfl) (by decide) (show decode kb0 63 = .ok (.newarray .int, 2) from by decide +kernel) rfl (by decide +kernel) (by decide) (by decide) rfl (show decode kb0 65 = .ok (.putfield 31, 3) from by decide +kernel) pf0_31 hj
theorem pf0_34 : pfR tables_1 y0.cls y0.name 34 = some ("ResponseTimeGate", 8, .array .int) := by decide +kernel
theorem m0_68a (hH : H.length = b) {vs : List Value} {r : AHeap} (hj : 8 < vs.length) : M0 68 (.val (.ref b) :: [l1, l2, l3]) [] (H ++ (.object "ResponseTimeGate", vs) :: r) Q = M0 75 (.val (.ref b) :: [l1, l2, l3]) [] (H ++ (.object "ResponseTimeGate", vs.set 8 (.ref (b + (r.length + 1)))) :: (r ++ [(.array .int, List.replicate 4 (.int 0))])) Q := w_iarr (n := 4) rfl hH (Nat.zero_le _) (show decode kb0 68 = .ok (.aload_n 0, 1) from by decide +kernel) rfl (show decode kb0 69 = .ok (.iconst 4, 1) from by decide +kernel) (fun _ => rfl) (by decide) (show decode kb0 70 = .ok (.newarray .int, 2) from by decide +kernel) rfl (by decide +kernel) (by decide) (by decide) rfl (show decode kb0 72 = .ok (.putfield 34, 3) from by decide +kernel) pf0_34 hj
theorem pf0_37 : pfR tables_1 y0.cls y0.name 37 = some ("ResponseTimeGate", 9, .array .int) := by decide +kernel
theorem m0_75a (hH : H.length = b) {vs : List Value} {r : AHeap} (hj : 9 < vs.length) : M0 75 (.val (.ref b) :: [l1, l2, l3]) [] (H ++ (.object "ResponseTimeGate", vs) :: r) Q = M0 82 (.val (.ref b) :: [l1, l2, l3]) [] (H ++ (.object "ResponseTimeGate", vs.set 9 (.ref (b + (r.length + 1)))) :: (r ++ [(.array .int, List.replicate 4 (.int 0))])) Q := w_iarr (n := 4) rfl hH (Nat.zero_le _) (show decode kb0 75 = .ok (.aload_n 0, 1) from by decide +kernel) rfl (show decode kb0 76 = .ok (.iconst 4, 1) from by decide +kernel) (fun _ => rfl) (by decide) (show decode kb0 77 = .ok (.newarray .int, 2) from by decide +kernel) rfl (by decide +kernel) (by decide) (by decide) rfl (show decode kb0 79 = .ok (.putfield 37, 3) from by decide +kernel) pf0_37 hj
theorem pf0_40 : pfR tables_1 y0.cls y0.name 40 = some ("ResponseTimeGate", 10, .array .int) := by decide +kernel
theorem m0_82a (hH : H.length = b) {vs : List Value} {r : AHeap} (hj : 10 < vs.length) : M0 82 (.val (.ref b) :: [l1, l2, l3]) [] (H ++ (.object "ResponseTimeGate", vs) :: r) Q = M0 89 (.val (.ref b) :: [l1, l2, l3]) [] (H ++ (.object "ResponseTimeGate", vs.set 10 (.ref (b + (r.length + 1)))) :: (r ++ [(.array .int, List.replicate 4 (.int 0))])) Q := w_iarr (n := 4) rfl hH (Nat.zero_le _) (show decode kb0 82 = .ok (.aload_n 0, 1) from by decide +kernel) rfl (show decode kb0 83 = .ok (.iconst 4, 1) from by decide +kernel) (fun _ => rfl) (by decide) (show decode kb0 84 = .ok (.newarray .int, 2) from by decide +kernel) rfl (by decide +kernel) (by decide) (by decide) rfl (show decode kb0 86 = .ok (.putfield 40, 3) from by decide +kernel) pf0_40 hj
theorem pf0_43 : pfR tables_1 y0.cls y0.name 43 = some ("ResponseTimeGate", 11, .array .int) := by decide +kernel
theorem m0_89a (hH : H.length = b) {vs : List Value} {r : AHeap} (hj : 11 < vs.length) : M0 89 (.val (.ref b) :: [l1, l2, l3]) [] (H ++ (.object "ResponseTimeGate", vs) :: r) Q = M0 96 (.val (.ref b) :: [l1, l2, l3]) [] (H ++ (.object "ResponseTimeGate", vs.set 11 (.ref (b + (r.length + 1)))) :: (r ++ [(.array .int, List.replicate 4 (.int 0))])) Q := w_iarr (n := 4) rfl hH (Nat.zero_le _) (show decode kb0 89 = .ok (.aload_n 0, 1) from by decide +kernel) rfl (show decode kb0 90 = .ok (.iconst 4, 1) from by decide +kernel) (fun _ => rfl) (by decide) (show decode kb0 91 = .ok (.newarray .int, 2) from by decide +kernel) rfl (by decide +kernel) (by decide) (by decide) rfl (show decode kb0 93 = .ok (.putfield 43, 3) from by decide +kernel) pf0_43 hj
theorem pf0_46 : pfR tables_1 y0.cls y0.name 46 = some ("ResponseTimeGate", 12, .array .int) := by decide +kernel
theorem m0_96a (hH : H.length = b) {vs : List Value} {r : AHeap} (hj : 12 < vs.length) : M0 96 (.val (.ref b) :: [l1, l2, l3]) [] (H ++ (.object "ResponseTimeGate", vs) :: r) Q = M0 104 (.val (.ref b) :: [l1, l2, l3]) [] (H ++ (.object "ResponseTimeGate", vs.set 12 (.ref (b + (r.length + 1)))) :: (r ++ [(.array .int, List.replicate 9 (.int 0))])) Q := w_iarr (n := 9) rfl hH (Nat.zero_le _) (show decode kb0 96 = .ok (.aload_n 0, 1) from by decide +kernel) rfl (show decode kb0 97 = .ok (.bipush 9, 2) from by decide +kernel) (fun _ => rfl) (by decide) (show decode kb0 99 = .ok (.newarray .int, 2) from by decide +kernel) rfl (by decide +kernel) (by decide) (by decide) rfl (show decode kb0 101 = .ok (.putfield 46, 3) from by decide +kernel) pf0_46 hj
theorem pf0_49 : pfR tables_1 y0.cls y0.name 49 = some ("ResponseTimeGate", 13, .array .int) := by decide +kernel
theorem m0_104a (hH : H.length = b) {vs : List Value} {r : AHeap} (hj : 13 < vs.length) : M0 104 (.val (.ref b) :: [l1, l2, l3]) [] (H ++ (.object "ResponseTimeGate", vs) :: r) Q = M0 112 (.val (.ref b) :: [l1, l2, l3]) [] (H ++ (.object "ResponseTimeGate", vs.set 13 (.ref (b + (r.length + 1)))) :: (r ++ [(.array .int, List.replicate 9 (.int 0))])) Q := w_iarr (n := 9) rfl hH (Nat.zero_le _) (show decode kb0 104 = .ok (.aload_n 0, 1) from by decide +kernel) rfl (show decode kb0 105 = .ok (.bipush 9, 2) from by decide +kernel) (fun _ => rfl) (by decide) (show decode kb0 107 = .ok (.newarray .int, 2) from by decide +kernel) rfl (by decide +kernel) (by decide) (by decide) rfl (show decode kb0 109 = .ok (.putfield 49, 3) from by decide +kernel) pf0_49 hj
theorem pf0_52 : pfR tables_1 y0.cls y0.name 52 = some ("ResponseTimeGate", 14, .array .boolean) := by decide +kernel
theorem m0_112a (hH : H.length = b) {vs : List Value} {r : AHeap} (hj : 14 < vs.length) : M0 112 (.val (.ref b) :: [l1, l2, l3]) [] (H ++ (.object "ResponseTimeGate", vs) :: r) Q = M0 120 (.val (.ref b) :: [l1, l2, l3]) [] (H ++ (.object "ResponseTimeGate", vs.set 14 (.ref (b + (r.length + 1)))) :: (r ++ [(.array .boolean, List.replicate 9 (.int 0))])) Q := w_iarr (n := 9) rfl hH (Nat.zero_le _) (show decode kb0 112 = .ok (.aload_n 0, 1) from by decide +kernel) rfl (show decode kb0 113 = .ok (.bipush 9, 2) from by decide +kernel) (fun _ => rfl) (by decide) (show decode kb0 115 = .ok (.newarray .boolean, 2) from by decide +kernel) rfl (by decide +kernel) (by decide) (by decide) rfl (show decode kb0 117 = .ok (.putfield 52, 3) from by decide +kernel) pf0_52 hj
theorem pf0_56 : pfR tables_1 y0.cls y0.name 56 = some ("ResponseTimeGate", 15, .array .int) := by decide +kernel
theorem m0_120a (hH : H.length = b) {vs : List Value} {r : AHeap} (hj : 15 < vs.length) : M0 120 (.val (.ref b) :: [l1, l2, l3]) [] (H ++ (.object "ResponseTimeGate", vs) :: r) Q = M0 128 (.val (.ref b) :: [l1, l2, l3]) [] (H ++ (.object "ResponseTimeGate", vs.set 15 (.ref (b + (r.length + 1)))) :: (r ++ [(.array .int, List.replicate 9 (.int 0))])) Q := w_iarr (n := 9) rfl hH (Nat.zero_le _) (show decode kb0 120 = .ok (.aload_n 0, 1) from by decide +kernel) rfl (show decode kb0 121 = .ok (.bipush 9, 2) from by decide +kernel) (fun _ => rfl) (by decide) (show decode kb0 123 = .ok (.newarray .int, 2) from by decide +kernel) rfl (by decide +kernel) (by decide) (by decide) rfl (show decode kb0 125 = .ok (.putfield 56, 3) from by decide +kernel) pf0_56 hj
theorem pf0_59 : pfR tables_1 y0.cls y0.name 59 = some ("ResponseTimeGate", 16, .array .int) := by decide +kernel
theorem m0_128a (hH : H.length = b) {vs : List Value} {r : AHeap} (hj : 16 < vs.length) : M0 128 (.val (.ref b) :: [l1, l2, l3]) [] (H ++ (.object "ResponseTimeGate", vs) :: r) Q = M0 136 (.val (.ref b) :: [l1, l2, l3]) [] (H ++ (.object "ResponseTimeGate", vs.set 16 (.ref (b + (r.length + 1)))) :: (r ++ [(.array .int, List.replicate 9 (.int 0))])) Q := w_iarr (n := 9) rfl hH (Nat.zero_le _) (show decode kb0 128 = .ok (.aload_n 0, 1) from by decide +kernel) rfl (show decode kb0 129 = .ok (.bipush 9, 2) from by decide +kernel) (fun _ => rfl) (by decide) (show decode kb0 131 = .ok (.newarray .int, 2) from by decide +kernel) rfl (by decide +kernel) (by decide) (by decide) rfl (show decode kb0 133 = .ok (.putfield 59, 3) from by decide +kernel) pf0_59 hj
theorem pf0_62 : pfR tables_1 y0.cls y0.name 62 = some ("ResponseTimeGate", 17, .array .int) := by decide +kernel
theorem m0_136a (hH : H.length = b) {vs : List Value} {r : AHeap} (hj : 17 < vs.length) : M0 136 (.val (.ref b) :: [l1, l2, l3]) [] (H ++ (.object "ResponseTimeGate", vs) :: r) Q = M0 144 (.val (.ref b) :: [l1, l2, l3]) [] (H ++ (.object "ResponseTimeGate", vs.set 17 (.ref (b + (r.length + 1)))) :: (r ++ [(.array .int, List.replicate 9 (.int 0))])) Q := w_iarr (n := 9) rfl hH (Nat.zero_le _) (show decode kb0 136 = .ok (.aload_n 0, 1) from by decide +kernel) rfl (show decode kb0 137 = .ok (.bipush 9, 2) from by decide +kernel) (fun _ => rfl) (by decide) (show decode kb0 139 = .ok (.newarray .int, 2) from by decide +kernel) rfl (by decide +kernel) (by decide) (by decide) rfl (show decode kb0 141 = .ok (.putfield 62, 3) from by decide +kernel) pf0_62 hj
theorem pf0_65 : pfR tables_1 y0.cls y0.name 65 = some ("ResponseTimeGate", 18, .array .int) := by decide +kernel
theorem m0_144a (hH : H.length = b) {vs : List Value} {r : AHeap} (hj : 18 < vs.length) : M0 144 (.val (.ref b) :: [l1, l2, l3]) [] (H ++ (.object "ResponseTimeGate", vs) :: r) Q = M0 152 (.val (.ref b) :: [l1, l2, l3]) [] (H ++ (.object "ResponseTimeGate", vs.set 18 (.ref (b + (r.length + 1)))) :: (r ++ [(.array .int, List.replicate 9 (.int 0))])) Q := w_iarr (n := 9) rfl hH (Nat.zero_le _) (show decode kb0 144 = .ok (.aload_n 0, 1) from by decide +kernel) rfl (show decode kb0 145 = .ok (.bipush 9, 2) from by decide +kernel) (fun _ => rfl) (by decide) (show decode kb0 147 = .ok (.newarray .int, 2) from by decide +kernel) rfl (by decide +kernel) (by decide) (by decide) rfl (show decode kb0 149 = .ok (.putfield 65, 3) from by decide +kernel) pf0_65 hj
theorem pf0_68 : pfR tables_1 y0.cls y0.name 68 = some ("ResponseTimeGate", 19, .array .int) := by decide +kernel
theorem m0_152a (hH : H.length = b) {vs : List Value} {r : AHeap} (hj : 19 < vs.length) : M0 152 (.val (.ref b) :: [l1, l2, l3]) [] (H ++ (.object "ResponseTimeGate", vs) :: r) Q = M0 160 (.val (.ref b) :: [l1, l2, l3]) [] (H ++ (.object "ResponseTimeGate", vs.set 19 (.ref (b + (r.length + 1)))) :: (r ++ [(.array .int, List.replicate 9 (.int 0))])) Q := w_iarr (n := 9) rfl hH (Nat.zero_le _) (show decode kb0 152 = .ok (.aload_n 0, 1) from by decide +kernel) rfl (show decode kb0 153 = .ok (.bipush 9, 2) from by decide +kernel) (fun _ => rfl) (by decide) (show decode kb0 155 = .ok (.newarray .int, 2) from by decide +kernel) rfl (by decide +kernel) (by decide) (by decide) rfl (show decode kb0 157 = .ok (.putfield 68, 3) from by decide +kernel) pf0_68 hj
def A0 : Nat → List Int32
  | 0 => List.replicate 9 0
  | 1 => List.replicate 9 0
  | 2 => List.replicate 9 0
  | 3 => List.replicate 9 0
  | 4 => List.replicate 36 0
  | 5 => List.replicate 36 0
  | 6 => List.replicate 9 0
  | 7 => List.replicate 9 0
  | 8 => List.replicate 4 0
  | 9 => List.replicate 4 0
  | 10 => List.replicate 4 0
  | 11 => List.replicate 4 0
  | 12 => List.replicate 9 0
  | 13 => List.replicate 9 0
  | 14 => List.replicate 9 0
  | 15 => List.replicate 9 0
  | 16 => List.replicate 9 0
  | 17 => List.replicate 9 0
  | 18 => List.replicate 9 0
  | 19 => List.replicate 9 0
  | _ => []
theorem A0l_0 : (A0 0).length = 9 := List.length_replicate
theorem A0g_0 (j : Int32) : getA (A0 0) j = 0 := getA_rep _ _
theorem A0l_1 : (A0 1).length = 9 := List.length_replicate
theorem A0g_1 (j : Int32) : getA (A0 1) j = 0 := getA_rep _ _
theorem A0l_2 : (A0 2).length = 9 := List.length_replicate
theorem A0g_2 (j : Int32) : getA (A0 2) j = 0 := getA_rep _ _
theorem A0l_3 : (A0 3).length = 9 := List.length_replicate
theorem A0g_3 (j : Int32) : getA (A0 3) j = 0 := getA_rep _ _
theorem A0l_4 : (A0 4).length = 36 := List.length_replicate
theorem A0g_4 (j : Int32) : getA (A0 4) j = 0 := getA_rep _ _
theorem A0l_5 : (A0 5).length = 36 := List.length_replicate
theorem A0g_5 (j : Int32) : getA (A0 5) j = 0 := getA_rep _ _
theorem A0l_6 : (A0 6).length = 9 := List.length_replicate
theorem A0g_6 (j : Int32) : getA (A0 6) j = 0 := getA_rep _ _
theorem A0l_7 : (A0 7).length = 9 := List.length_replicate
theorem A0g_7 (j : Int32) : getA (A0 7) j = 0 := getA_rep _ _
theorem A0l_8 : (A0 8).length = 4 := List.length_replicate
theorem A0g_8 (j : Int32) : getA (A0 8) j = 0 := getA_rep _ _
theorem A0l_9 : (A0 9).length = 4 := List.length_replicate
theorem A0g_9 (j : Int32) : getA (A0 9) j = 0 := getA_rep _ _
theorem A0l_10 : (A0 10).length = 4 := List.length_replicate
theorem A0g_10 (j : Int32) : getA (A0 10) j = 0 := getA_rep _ _
theorem A0l_11 : (A0 11).length = 4 := List.length_replicate
theorem A0g_11 (j : Int32) : getA (A0 11) j = 0 := getA_rep _ _
theorem A0l_12 : (A0 12).length = 9 := List.length_replicate
theorem A0g_12 (j : Int32) : getA (A0 12) j = 0 := getA_rep _ _
theorem A0l_13 : (A0 13).length = 9 := List.length_replicate
theorem A0g_13 (j : Int32) : getA (A0 13) j = 0 := getA_rep _ _
theorem A0l_14 : (A0 14).length = 9 := List.length_replicate
theorem A0g_14 (j : Int32) : getA (A0 14) j = 0 := getA_rep _ _
theorem A0l_15 : (A0 15).length = 9 := List.length_replicate
theorem A0g_15 (j : Int32) : getA (A0 15) j = 0 := getA_rep _ _
theorem A0l_16 : (A0 16).length = 9 := List.length_replicate
theorem A0g_16 (j : Int32) : getA (A0 16) j = 0 := getA_rep _ _
theorem A0l_17 : (A0 17).length = 9 := List.length_replicate
theorem A0g_17 (j : Int32) : getA (A0 17) j = 0 := getA_rep _ _
theorem A0l_18 : (A0 18).length = 9 := List.length_replicate
theorem A0g_18 (j : Int32) : getA (A0 18) j = 0 := getA_rep _ _
theorem A0l_19 : (A0 19).length = 9 := List.length_replicate
theorem A0g_19 (j : Int32) : getA (A0 19) j = 0 := getA_rep _ _
theorem own_ctor0 (hb : pre.length = b) : M0 0 (.val (.ref b) :: [l1, l2, l3]) [] (pre ++ [(.object "ResponseTimeGate", D0)]) Q = M0 160 (.val (.ref b) :: [l1, l2, l3]) [] (put b pre (fun _ => 0) A0 []) Q := by
  rw [m0_0, m0_1, m0_4a hb (by (repeat rw [List.length_set]); exact Nat.le_of_ble_eq_true rfl), m0_12a hb (by (repeat rw [List.length_set]); exact Nat.le_of_ble_eq_true rfl), m0_20a hb (by (repeat rw [List.length_set]); exact Nat.le_of_ble_eq_true rfl), m0_28a hb (by (repeat rw [List.length_set]); exact Nat.le_of_ble_eq_true rfl), m0_36a hb (by (repeat rw [List.length_set]); exact Nat.le_of_ble_eq_true rfl), m0_44a hb (by (repeat rw [List.length_set]); exact Nat.le_of_ble_eq_true rfl), m0_52a hb (by (repeat rw [List.length_set]); exact Nat.le_of_ble_eq_true rfl), m0_60a hb (by (repeat rw [List.length_set]); exact Nat.le_of_ble_eq_true rfl), m0_68a hb (by (repeat rw [List.length_set]); exact Nat.le_of_ble_eq_true rfl), m0_75a hb (by (repeat rw [List.length_set]); exact Nat.le_of_ble_eq_true rfl), m0_82a hb (by (repeat rw [List.length_set]); exact Nat.le_of_ble_eq_true rfl), m0_89a hb (by (repeat rw [List.length_set]); exact Nat.le_of_ble_eq_true rfl), m0_96a hb (by (repeat rw [List.length_set]); exact Nat.le_of_ble_eq_true rfl), m0_104a hb (by (repeat rw [List.length_set]); exact Nat.le_of_ble_eq_true rfl), m0_112a hb (by (repeat rw [List.length_set]); exact Nat.le_of_ble_eq_true rfl), m0_120a hb (by (repeat rw [List.length_set]); exact Nat.le_of_ble_eq_true rfl), m0_128a hb (by (repeat rw [List.length_set]); exact Nat.le_of_ble_eq_true rfl), m0_136a hb (by (repeat rw [List.length_set]); exact Nat.le_of_ble_eq_true rfl), m0_144a hb (by (repeat rw [List.length_set]); exact Nat.le_of_ble_eq_true rfl), m0_152a hb (by (repeat rw [List.length_set]); exact Nat.le_of_ble_eq_true rfl)]
  simp only [put, pad_eq hb, objv, D0, A0, List.map_replicate, List.set_cons_succ, List.set_cons_zero, List.nil_append, List.cons_append, List.length_cons, List.length_nil, List.append_nil]
end Rules
/- methods: 0=ResponseTimeGate.<init>(I)V; 1=ResponseTimeGate.resetSim()V; 2=ResponseTimeGate.beginTask(IIII)I; 3=ResponseTimeGate.commitTask()I; 4=ResponseTimeGate.taskCount()I; 5=ResponseTimeGate.bound(I)I; 6=ResponseTimeGate.admitted(I)Z; 7=ResponseTimeGate.blocking(I)I; 8=ResponseTimeGate.hyperperiod()I; 9=ResponseTimeGate.failedTask()I; 10=ResponseTimeGate.priorityTaken(I)Z; 11=ResponseTimeGate.lcmWith(II)I; 12=ResponseTimeGate.gcd(II)I; 13=ResponseTimeGate.placeStaged(I)V; 14=ResponseTimeGate.analyze(I)I; 15=ResponseTimeGate.computeCeilings(I)V; 16=ResponseTimeGate.blockingOf(II)I; 17=ResponseTimeGate.responseOf(III)I; 18=ResponseTimeGate.interference(III)I; 19=ResponseTimeGate.adoptResults(I)V; 20=ResponseTimeGateL2.law(IIIII)Z -/
theorem own_irr (x : Int32) : (x < x) = False := by
  apply propext
  rw [lt_i]
  constructor
  · intro h; omega
  · exact False.elim
theorem own_mod1 (x : Int32) : x % 1 = 0 := by
  apply Int32.toInt_inj.mp
  rw [Int32.toInt_mod]
  show x.toInt.tmod 1 = 0
  exact Int.tmod_one _
theorem own_1mod {x : Int32} (h : 1 < x) : 1 % x = 1 := by
  apply Int32.toInt_inj.mp
  rw [Int32.toInt_mod]
  rw [lt_i] at h
  have e1 : (1 : Int32).toInt = 1 := rfl
  rw [e1] at *
  exact Int.tmod_eq_of_lt (by omega) h
theorem own_gt1 {x : Int32} (h : ¬ x < 1) (hn : ¬ x = 1) : 1 < x := by
  have e1 : (1 : Int32).toInt = 1 := rfl
  rw [lt_i] at *
  have g : x.toInt ≠ 1 := fun q => hn (Int32.toInt_inj.mp (q.trans e1.symm))
  omega
theorem own_pos {x : Int32} (h : ¬ x < 1) : 0 < x := by
  have e1 : (1 : Int32).toInt = 1 := rfl
  have e0 : (0 : Int32).toInt = 0 := rfl
  rw [lt_i] at *
  omega
theorem own_nn {x : Int32} (h : ¬ x < 1) : ¬ x < 0 := by
  have e1 : (1 : Int32).toInt = 1 := rfl
  have e0 : (0 : Int32).toInt = 0 := rfl
  rw [lt_i] at *
  omega
theorem own_ne0 {x : Int32} (h : ¬ x < 1) : ¬ x = 0 := fun e => by subst e; exact absurd h (by decide)
set_option maxRecDepth 1000000 in
set_option maxHeartbeats 20000000 in
theorem own_law (i0 : Int32) (i1 : Int32) (i2 : Int32) (i3 : Int32) (i4 : Int32) : W tables_1 dn 0 x code ret 0 (entry [.int i0, .int i1, .int i2, .int i3, .int i4] maxLocals) [] [] (fun v H1 => v = some (.int 1) ∧ H1.length - ([] : AHeap).length ≤ 56 ∧ tot tables_1 H1 - tot tables_1 [] ≤ 576) := by
  show M20 0 [.val (.int i0), .val (.int i1), .val (.int i2), .val (.int i3), .val (.int i4), .unset, .unset, .unset, .unset, .unset, .unset, .unset, .unset] [] [] _
  rw [m20_0, m20_3, m20_4, m20_5, own_ctor0 rfl]
  by_cases a1 : i0 < 1
  · by_cases b1 : i1 < 1
    · simp [a1, b1, m0_0, m0_1, m0_4, m0_5, m0_12, m0_13, m0_20, m0_21, m0_28, m0_29, m0_36, m0_37, m0_44, m0_45, m0_52, m0_53, m0_60, m0_61, m0_68, m0_69, m0_75, m0_76, m0_82, m0_83, m0_89, m0_90, m0_96, m0_97, m0_104, m0_105, m0_112, m0_113, m0_120, m0_121, m0_128, m0_129, m0_136, m0_137, m0_144, m0_145, m0_152, m0_153, m0_160, m0_161u, m0_162, m0_163, m0_164, m0_167, m0_168i, m0_169, m0_170, m0_172, m0_175, m0_177i, m0_178, m0_179, m0_180, m0_183, m0_184, m0_185, m0_188, m0_189, m0_190, m0_193, m0_194, m0_195, m0_198, m0_199, m0_200, m0_203, m0_204u, m0_205, m0_206, m0_207, m0_210, m0_211, m0_214, m0_215, m0_216, m0_217, m0_220, m0_223, m0_224, m0_227, m1_0, m1_1, m1_2, m1_5, m1_6, m1_7, m1_10, m1_11u, m1_12, m1_13, m1_15, m1_18, m1_19, m1_22, m1_23, m1_24, m1_25, m1_26, m1_29, m1_30, m1_31, m1_32, m1_33, m1_36, m1_37, m1_38, m1_39, m1_40, m1_43, m1_44, m1_45, m1_46, m1_47, m1_50, m1_51, m1_52, m1_53, m1_54, m1_57, m1_58, m1_59, m1_60, m1_63, m1_66, m2_0, m2_1, m2_4, m2_5, m2_8, m2_11, m2_12, m2_13, m2_14, m2_15, m2_18, m2_19, m2_22, m2_25, m2_27, m2_28, m2_29, m2_30, m2_33, m2_34, m2_35, m2_38, m2_40, m2_41, m2_42, m2_43, m2_46, m2_47, m2_48, m2_51, m2_53, m2_54, m2_56, m2_57, m2_60, m2_62, m2_64, m2_67, m2_69, m2_70, m2_71, m2_73, m2_76, m2_79, m2_81, m2_82, m2_83, m2_84, m2_87, m2_88, m2_89, m2_92, m2_93, m2_94, m2_97, m2_98, m2_99, m2_102, m2_103, m2_105, m2_108, m2_109u, m2_111, m2_113, m2_114, m2_117, m2_118, m2_121, m2_123, m2_124, m2_125, m2_126, m2_129, m2_131, m2_132, m2_133, m2_136, m2_139, m2_140, m3_0, m3_1, m3_4, m3_7, m3_9, m3_10, m3_11, m3_14u, m3_15, m3_16, m3_18, m3_21, m3_22, m3_23, m3_26, m3_27, m3_28, m3_29, m3_30, m3_33, m3_34, m3_37, m3_40u, m3_41, m3_42, m3_45, m3_48, m3_49, m3_50, m3_53, m3_54, m3_55, m3_58, m3_60, m3_61, m3_62, m3_63, m3_66, m3_67, m3_68, m3_69, m3_70, m3_73u, m3_74, m3_75, m3_78, m3_79, m3_80, m3_83, m3_84, m3_85, m3_88, m3_90, m3_91, m3_92, m3_93, m3_94, m3_95, m3_98, m3_99, m3_100, m3_101, m3_102, m3_105, m3_106, m3_107, m3_110, m3_111, m3_112, m3_115, m3_116, m3_117, m3_120, m3_121, m3_124, m3_125, m4_0, m4_1, m4_4, m5_0, m5_1, m5_2, m5_5, m5_8, m5_9, m5_10, m5_11, m5_14, m5_15, m5_16, m6_0, m6_1, m6_4, m6_5, m6_6, m6_9, m6_12, m6_13, m6_16, m6_17, m7_0, m7_1, m7_2, m7_5, m7_8, m7_9, m7_10, m7_11, m7_14, m7_15, m7_16, m8_0, m8_1, m8_4, m9_0, m9_1, m9_4, m10_0, m10_1u, m10_2, m10_3, m10_4, m10_7, m10_10, m10_11, m10_14, m10_15, m10_16, m10_17, m10_20, m10_21, m10_22, m10_25, m10_28, m10_29, m11_0, m11_1, m11_2, m11_5, m11_6, m11_7, m11_10, m11_13, m11_14, m11_15, m11_16, m11_17, m11_20u, m11_21, m11_22, m11_23, m11_26, m11_29, m11_30, m11_31, m11_32, m11_33, m11_34, m11_35, m12_0, m12_1u, m12_2, m12_3u, m12_5, m12_6u, m12_8, m12_10, m12_12, m12_15, m12_17, m12_20, m12_23, m12_24, m12_26, m12_27u, m12_27i, m12_27r, m12_29, m12_31i, m12_32, m12_34i, m12_36, m12_39, m12_42, m12_43, m13_0, m13_1, m13_4, m13_5, m13_6, m13_9, m13_10, m13_11, m13_14, m13_15, m13_16, m13_19, m13_20, m13_21, m13_24, m13_25, m13_26, m13_29, m13_30, m13_31, m13_34, m13_35, m13_36, m13_39, m13_40, m13_41u, m13_42, m13_43, m13_44, m13_47, m13_48, m13_51, m13_52, m13_53, m13_54, m13_55, m13_56, m13_57, m13_60, m13_61, m13_62, m13_63, m13_64, m13_67, m13_68, m13_69, m13_70, m13_71, m13_72, m13_73, m13_76, m13_77, m13_78, m13_79, m13_82, m13_85, m14_0, m14_1, m14_2, m14_5, m14_6u, m14_7, m14_8, m14_9, m14_12, m14_13, m14_14, m14_15, m14_18u, m14_18i, m14_18r, m14_19, m14_20, m14_23, m14_24, m14_25, m14_26, m14_27, m14_28, m14_29, m14_30, m14_33u, m14_33i, m14_33r, m14_35, m14_37, m14_40, m14_41, m14_42, m14_43, m14_46, m14_47, m14_49, m14_50, m14_53, m14_56, m14_57, m15_0, m15_1u, m15_2, m15_3, m15_4, m15_7, m15_8u, m15_8i, m15_8r, m15_9, m15_10u, m15_10i, m15_10r, m15_12, m15_14, m15_15, m15_18, m15_19, m15_22, m15_24, m15_25, m15_26, m15_27, m15_28, m15_29, m15_32, m15_33, m15_36, m15_38, m15_39, m15_40, m15_43, m15_44, m15_47, m15_49, m15_50i, m15_51, m15_54, m15_57, m15_58, m15_61, m15_62, m15_63, m15_64, m15_67, m15_70, m16_0, m16_1u, m16_2, m16_3, m16_6, m16_7, m16_8u, m16_10, m16_11u, m16_13, m16_15, m16_16, m16_19, m16_20, m16_23, m16_25, m16_26, m16_28, m16_31, m16_34, m16_35u, m16_35i, m16_35r, m16_37, m16_39, m16_40, m16_43, m16_44, m16_47, m16_49, m16_50, m16_51, m16_53, m16_54, m16_55u, m16_55i, m16_55r, m16_57, m16_59, m16_62, m16_63, m16_66, m16_68, m16_69, m16_71, m16_74, m16_76, m16_77, m16_80, m16_82i, m16_83, m16_86, m16_89, m16_92, m16_95, m16_96, m17_0, m17_1, m17_4, m17_5, m17_6, m17_7, m17_8u, m17_10, m17_12u, m17_14, m17_15u, m17_17, m17_19, m17_22, m17_25, m17_27, m17_28, m17_31, m17_32, m17_33, m17_36, m17_37, m17_38, m17_40, m17_41, m17_42, m17_43, m17_45, m17_48, m17_49u, m17_49i, m17_49r, m17_51, m17_53, m17_55, m17_58, m17_60, m17_61, m17_63i, m17_65, m17_68, m17_71, m17_72, m18_0, m18_1u, m18_3, m18_4, m18_7, m18_8, m18_9u, m18_11, m18_12u, m18_14, m18_16, m18_17, m18_20, m18_21, m18_24, m18_26, m18_27u, m18_27i, m18_27r, m18_29, m18_30, m18_33, m18_35, m18_36, m18_38, m18_41, m18_43, m18_46, m18_48, m18_49, m18_51, m18_52, m18_53, m18_54, m18_56, m18_57, m18_58, m18_61, m18_63, m18_64, m18_65, m18_66i, m18_68, m18_71, m18_74, m18_76, m19_0, m19_1u, m19_2, m19_3, m19_4, m19_7, m19_8, m19_11, m19_12, m19_13, m19_16, m19_17, m19_18, m19_19, m19_20, m19_23, m19_24, m19_25, m19_28, m19_29, m19_30, m19_31, m19_34, m19_37, m19_38i, m19_39, m19_40, m19_41, m19_44, m19_45, m19_48, m19_49, m19_50, m19_53, m19_54, m19_55, m19_56, m19_59, m19_62, m20_0, m20_3, m20_4, m20_5, m20_8u, m20_10, m20_11, m20_12, m20_15, m20_16, m20_19, m20_20, m20_22, m20_25, m20_27, m20_30, m20_31u, m20_33, m20_34, m20_35, m20_38, m20_39, m20_42, m20_45, m20_46, m20_47, m20_50, m20_51, m20_52, m20_55, m20_56, m20_57, m20_60, m20_61, m20_62, m20_65, m20_67u, m20_69, m20_72, m20_74, m20_75, m20_78, m20_80, m20_82, m20_85, m20_87u, m20_89, m20_92, m20_93u, m20_95, m20_97, m20_98, m20_99, m20_100, m20_102, m20_105u, m20_107, m20_109, m20_111, m20_114, m20_115, m20_116, m20_118, m20_121, m20_122, m20_125, m20_126u, m20_128, m20_130, m20_133u, m20_135, m20_137, m20_139, m20_142, m20_143, m20_146, m20_148, m20_151, m20_152, m20_153, m20_155, m20_158, m20_160, m20_163, m20_164, m20_167, m20_168, m20_171, m20_172, m20_173, m20_175, m20_176, m20_179, m20_181, m20_184, m20_185, m20_188, m20_189, m20_192, m20_193, m20_194, m20_196, m20_197, m20_200, m20_202, m20_205, m20_206, m20_209, m20_210, m20_213, m20_214, m20_215, m20_217, m20_220, m20_222, m20_225, m20_226, m20_229, m20_230, m20_233, m20_234, m20_235, m20_237, m20_240, m20_241, m20_244, m20_245, m20_246, m20_248, m20_251, m20_253, m20_256, m20_257, m20_258, m20_260, m20_261, m20_262, m20_263, m20_265, m20_268u, m20_270, m20_272, m20_275, m20_277, m20_278, m20_281, m20_282, m20_285, m20_287, m20_290, m20_292u, m20_294, m20_296, m20_298, m20_301, m20_302, m20_305, m20_306, nb0, nb1, ou_a, Option.toList_some, Option.toList_none, List.nil_append, List.cons_append, getA_set2, setA_len, inB_iff, A0g_0, A0g_1, A0g_2, A0g_3, A0g_4, A0g_5, A0g_6, A0g_7, A0g_8, A0g_9, A0g_10, A0g_11, A0g_12, A0g_13, A0g_14, A0g_15, A0g_16, A0g_17, A0g_18, A0g_19, A0l_0, A0l_1, A0l_2, A0l_3, A0l_4, A0l_5, A0l_6, A0l_7, A0l_8, A0l_9, A0l_10, A0l_11, A0l_12, A0l_13, A0l_14, A0l_15, A0l_16, A0l_17, A0l_18, A0l_19]
      refine ⟨?_, ?_⟩ <;> simp only [ou_a, setA_len, put_len, put_tot, pad_0, tot_nil, List.length_nil, List.length_cons, A0l_0, A0l_1, A0l_2, A0l_3, A0l_4, A0l_5, A0l_6, A0l_7, A0l_8, A0l_9, A0l_10, A0l_11, A0l_12, A0l_13, A0l_14, A0l_15, A0l_16, A0l_17, A0l_18, A0l_19] <;> simp [setA_len, put_len, put_tot, pad_0, tot_nil, List.length_nil, List.length_cons, A0l_0, A0l_1, A0l_2, A0l_3, A0l_4, A0l_5, A0l_6, A0l_7, A0l_8, A0l_9, A0l_10, A0l_11, A0l_12, A0l_13, A0l_14, A0l_15, A0l_16, A0l_17, A0l_18, A0l_19]
    by_cases b2 : 840 < i1
    · simp [a1, b1, b2, m0_0, m0_1, m0_4, m0_5, m0_12, m0_13, m0_20, m0_21, m0_28, m0_29, m0_36, m0_37, m0_44, m0_45, m0_52, m0_53, m0_60, m0_61, m0_68, m0_69, m0_75, m0_76, m0_82, m0_83, m0_89, m0_90, m0_96, m0_97, m0_104, m0_105, m0_112, m0_113, m0_120, m0_121, m0_128, m0_129, m0_136, m0_137, m0_144, m0_145, m0_152, m0_153, m0_160, m0_161u, m0_162, m0_163, m0_164, m0_167, m0_168i, m0_169, m0_170, m0_172, m0_175, m0_177i, m0_178, m0_179, m0_180, m0_183, m0_184, m0_185, m0_188, m0_189, m0_190, m0_193, m0_194, m0_195, m0_198, m0_199, m0_200, m0_203, m0_204u, m0_205, m0_206, m0_207, m0_210, m0_211, m0_214, m0_215, m0_216, m0_217, m0_220, m0_223, m0_224, m0_227, m1_0, m1_1, m1_2, m1_5, m1_6, m1_7, m1_10, m1_11u, m1_12, m1_13, m1_15, m1_18, m1_19, m1_22, m1_23, m1_24, m1_25, m1_26, m1_29, m1_30, m1_31, m1_32, m1_33, m1_36, m1_37, m1_38, m1_39, m1_40, m1_43, m1_44, m1_45, m1_46, m1_47, m1_50, m1_51, m1_52, m1_53, m1_54, m1_57, m1_58, m1_59, m1_60, m1_63, m1_66, m2_0, m2_1, m2_4, m2_5, m2_8, m2_11, m2_12, m2_13, m2_14, m2_15, m2_18, m2_19, m2_22, m2_25, m2_27, m2_28, m2_29, m2_30, m2_33, m2_34, m2_35, m2_38, m2_40, m2_41, m2_42, m2_43, m2_46, m2_47, m2_48, m2_51, m2_53, m2_54, m2_56, m2_57, m2_60, m2_62, m2_64, m2_67, m2_69, m2_70, m2_71, m2_73, m2_76, m2_79, m2_81, m2_82, m2_83, m2_84, m2_87, m2_88, m2_89, m2_92, m2_93, m2_94, m2_97, m2_98, m2_99, m2_102, m2_103, m2_105, m2_108, m2_109u, m2_111, m2_113, m2_114, m2_117, m2_118, m2_121, m2_123, m2_124, m2_125, m2_126, m2_129, m2_131, m2_132, m2_133, m2_136, m2_139, m2_140, m3_0, m3_1, m3_4, m3_7, m3_9, m3_10, m3_11, m3_14u, m3_15, m3_16, m3_18, m3_21, m3_22, m3_23, m3_26, m3_27, m3_28, m3_29, m3_30, m3_33, m3_34, m3_37, m3_40u, m3_41, m3_42, m3_45, m3_48, m3_49, m3_50, m3_53, m3_54, m3_55, m3_58, m3_60, m3_61, m3_62, m3_63, m3_66, m3_67, m3_68, m3_69, m3_70, m3_73u, m3_74, m3_75, m3_78, m3_79, m3_80, m3_83, m3_84, m3_85, m3_88, m3_90, m3_91, m3_92, m3_93, m3_94, m3_95, m3_98, m3_99, m3_100, m3_101, m3_102, m3_105, m3_106, m3_107, m3_110, m3_111, m3_112, m3_115, m3_116, m3_117, m3_120, m3_121, m3_124, m3_125, m4_0, m4_1, m4_4, m5_0, m5_1, m5_2, m5_5, m5_8, m5_9, m5_10, m5_11, m5_14, m5_15, m5_16, m6_0, m6_1, m6_4, m6_5, m6_6, m6_9, m6_12, m6_13, m6_16, m6_17, m7_0, m7_1, m7_2, m7_5, m7_8, m7_9, m7_10, m7_11, m7_14, m7_15, m7_16, m8_0, m8_1, m8_4, m9_0, m9_1, m9_4, m10_0, m10_1u, m10_2, m10_3, m10_4, m10_7, m10_10, m10_11, m10_14, m10_15, m10_16, m10_17, m10_20, m10_21, m10_22, m10_25, m10_28, m10_29, m11_0, m11_1, m11_2, m11_5, m11_6, m11_7, m11_10, m11_13, m11_14, m11_15, m11_16, m11_17, m11_20u, m11_21, m11_22, m11_23, m11_26, m11_29, m11_30, m11_31, m11_32, m11_33, m11_34, m11_35, m12_0, m12_1u, m12_2, m12_3u, m12_5, m12_6u, m12_8, m12_10, m12_12, m12_15, m12_17, m12_20, m12_23, m12_24, m12_26, m12_27u, m12_27i, m12_27r, m12_29, m12_31i, m12_32, m12_34i, m12_36, m12_39, m12_42, m12_43, m13_0, m13_1, m13_4, m13_5, m13_6, m13_9, m13_10, m13_11, m13_14, m13_15, m13_16, m13_19, m13_20, m13_21, m13_24, m13_25, m13_26, m13_29, m13_30, m13_31, m13_34, m13_35, m13_36, m13_39, m13_40, m13_41u, m13_42, m13_43, m13_44, m13_47, m13_48, m13_51, m13_52, m13_53, m13_54, m13_55, m13_56, m13_57, m13_60, m13_61, m13_62, m13_63, m13_64, m13_67, m13_68, m13_69, m13_70, m13_71, m13_72, m13_73, m13_76, m13_77, m13_78, m13_79, m13_82, m13_85, m14_0, m14_1, m14_2, m14_5, m14_6u, m14_7, m14_8, m14_9, m14_12, m14_13, m14_14, m14_15, m14_18u, m14_18i, m14_18r, m14_19, m14_20, m14_23, m14_24, m14_25, m14_26, m14_27, m14_28, m14_29, m14_30, m14_33u, m14_33i, m14_33r, m14_35, m14_37, m14_40, m14_41, m14_42, m14_43, m14_46, m14_47, m14_49, m14_50, m14_53, m14_56, m14_57, m15_0, m15_1u, m15_2, m15_3, m15_4, m15_7, m15_8u, m15_8i, m15_8r, m15_9, m15_10u, m15_10i, m15_10r, m15_12, m15_14, m15_15, m15_18, m15_19, m15_22, m15_24, m15_25, m15_26, m15_27, m15_28, m15_29, m15_32, m15_33, m15_36, m15_38, m15_39, m15_40, m15_43, m15_44, m15_47, m15_49, m15_50i, m15_51, m15_54, m15_57, m15_58, m15_61, m15_62, m15_63, m15_64, m15_67, m15_70, m16_0, m16_1u, m16_2, m16_3, m16_6, m16_7, m16_8u, m16_10, m16_11u, m16_13, m16_15, m16_16, m16_19, m16_20, m16_23, m16_25, m16_26, m16_28, m16_31, m16_34, m16_35u, m16_35i, m16_35r, m16_37, m16_39, m16_40, m16_43, m16_44, m16_47, m16_49, m16_50, m16_51, m16_53, m16_54, m16_55u, m16_55i, m16_55r, m16_57, m16_59, m16_62, m16_63, m16_66, m16_68, m16_69, m16_71, m16_74, m16_76, m16_77, m16_80, m16_82i, m16_83, m16_86, m16_89, m16_92, m16_95, m16_96, m17_0, m17_1, m17_4, m17_5, m17_6, m17_7, m17_8u, m17_10, m17_12u, m17_14, m17_15u, m17_17, m17_19, m17_22, m17_25, m17_27, m17_28, m17_31, m17_32, m17_33, m17_36, m17_37, m17_38, m17_40, m17_41, m17_42, m17_43, m17_45, m17_48, m17_49u, m17_49i, m17_49r, m17_51, m17_53, m17_55, m17_58, m17_60, m17_61, m17_63i, m17_65, m17_68, m17_71, m17_72, m18_0, m18_1u, m18_3, m18_4, m18_7, m18_8, m18_9u, m18_11, m18_12u, m18_14, m18_16, m18_17, m18_20, m18_21, m18_24, m18_26, m18_27u, m18_27i, m18_27r, m18_29, m18_30, m18_33, m18_35, m18_36, m18_38, m18_41, m18_43, m18_46, m18_48, m18_49, m18_51, m18_52, m18_53, m18_54, m18_56, m18_57, m18_58, m18_61, m18_63, m18_64, m18_65, m18_66i, m18_68, m18_71, m18_74, m18_76, m19_0, m19_1u, m19_2, m19_3, m19_4, m19_7, m19_8, m19_11, m19_12, m19_13, m19_16, m19_17, m19_18, m19_19, m19_20, m19_23, m19_24, m19_25, m19_28, m19_29, m19_30, m19_31, m19_34, m19_37, m19_38i, m19_39, m19_40, m19_41, m19_44, m19_45, m19_48, m19_49, m19_50, m19_53, m19_54, m19_55, m19_56, m19_59, m19_62, m20_0, m20_3, m20_4, m20_5, m20_8u, m20_10, m20_11, m20_12, m20_15, m20_16, m20_19, m20_20, m20_22, m20_25, m20_27, m20_30, m20_31u, m20_33, m20_34, m20_35, m20_38, m20_39, m20_42, m20_45, m20_46, m20_47, m20_50, m20_51, m20_52, m20_55, m20_56, m20_57, m20_60, m20_61, m20_62, m20_65, m20_67u, m20_69, m20_72, m20_74, m20_75, m20_78, m20_80, m20_82, m20_85, m20_87u, m20_89, m20_92, m20_93u, m20_95, m20_97, m20_98, m20_99, m20_100, m20_102, m20_105u, m20_107, m20_109, m20_111, m20_114, m20_115, m20_116, m20_118, m20_121, m20_122, m20_125, m20_126u, m20_128, m20_130, m20_133u, m20_135, m20_137, m20_139, m20_142, m20_143, m20_146, m20_148, m20_151, m20_152, m20_153, m20_155, m20_158, m20_160, m20_163, m20_164, m20_167, m20_168, m20_171, m20_172, m20_173, m20_175, m20_176, m20_179, m20_181, m20_184, m20_185, m20_188, m20_189, m20_192, m20_193, m20_194, m20_196, m20_197, m20_200, m20_202, m20_205, m20_206, m20_209, m20_210, m20_213, m20_214, m20_215, m20_217, m20_220, m20_222, m20_225, m20_226, m20_229, m20_230, m20_233, m20_234, m20_235, m20_237, m20_240, m20_241, m20_244, m20_245, m20_246, m20_248, m20_251, m20_253, m20_256, m20_257, m20_258, m20_260, m20_261, m20_262, m20_263, m20_265, m20_268u, m20_270, m20_272, m20_275, m20_277, m20_278, m20_281, m20_282, m20_285, m20_287, m20_290, m20_292u, m20_294, m20_296, m20_298, m20_301, m20_302, m20_305, m20_306, nb0, nb1, ou_a, Option.toList_some, Option.toList_none, List.nil_append, List.cons_append, getA_set2, setA_len, inB_iff, A0g_0, A0g_1, A0g_2, A0g_3, A0g_4, A0g_5, A0g_6, A0g_7, A0g_8, A0g_9, A0g_10, A0g_11, A0g_12, A0g_13, A0g_14, A0g_15, A0g_16, A0g_17, A0g_18, A0g_19, A0l_0, A0l_1, A0l_2, A0l_3, A0l_4, A0l_5, A0l_6, A0l_7, A0l_8, A0l_9, A0l_10, A0l_11, A0l_12, A0l_13, A0l_14, A0l_15, A0l_16, A0l_17, A0l_18, A0l_19]
      refine ⟨?_, ?_⟩ <;> simp only [ou_a, setA_len, put_len, put_tot, pad_0, tot_nil, List.length_nil, List.length_cons, A0l_0, A0l_1, A0l_2, A0l_3, A0l_4, A0l_5, A0l_6, A0l_7, A0l_8, A0l_9, A0l_10, A0l_11, A0l_12, A0l_13, A0l_14, A0l_15, A0l_16, A0l_17, A0l_18, A0l_19] <;> simp [setA_len, put_len, put_tot, pad_0, tot_nil, List.length_nil, List.length_cons, A0l_0, A0l_1, A0l_2, A0l_3, A0l_4, A0l_5, A0l_6, A0l_7, A0l_8, A0l_9, A0l_10, A0l_11, A0l_12, A0l_13, A0l_14, A0l_15, A0l_16, A0l_17, A0l_18, A0l_19]
    by_cases b3 : i2 < 1
    · simp [a1, b1, b2, b3, m0_0, m0_1, m0_4, m0_5, m0_12, m0_13, m0_20, m0_21, m0_28, m0_29, m0_36, m0_37, m0_44, m0_45, m0_52, m0_53, m0_60, m0_61, m0_68, m0_69, m0_75, m0_76, m0_82, m0_83, m0_89, m0_90, m0_96, m0_97, m0_104, m0_105, m0_112, m0_113, m0_120, m0_121, m0_128, m0_129, m0_136, m0_137, m0_144, m0_145, m0_152, m0_153, m0_160, m0_161u, m0_162, m0_163, m0_164, m0_167, m0_168i, m0_169, m0_170, m0_172, m0_175, m0_177i, m0_178, m0_179, m0_180, m0_183, m0_184, m0_185, m0_188, m0_189, m0_190, m0_193, m0_194, m0_195, m0_198, m0_199, m0_200, m0_203, m0_204u, m0_205, m0_206, m0_207, m0_210, m0_211, m0_214, m0_215, m0_216, m0_217, m0_220, m0_223, m0_224, m0_227, m1_0, m1_1, m1_2, m1_5, m1_6, m1_7, m1_10, m1_11u, m1_12, m1_13, m1_15, m1_18, m1_19, m1_22, m1_23, m1_24, m1_25, m1_26, m1_29, m1_30, m1_31, m1_32, m1_33, m1_36, m1_37, m1_38, m1_39, m1_40, m1_43, m1_44, m1_45, m1_46, m1_47, m1_50, m1_51, m1_52, m1_53, m1_54, m1_57, m1_58, m1_59, m1_60, m1_63, m1_66, m2_0, m2_1, m2_4, m2_5, m2_8, m2_11, m2_12, m2_13, m2_14, m2_15, m2_18, m2_19, m2_22, m2_25, m2_27, m2_28, m2_29, m2_30, m2_33, m2_34, m2_35, m2_38, m2_40, m2_41, m2_42, m2_43, m2_46, m2_47, m2_48, m2_51, m2_53, m2_54, m2_56, m2_57, m2_60, m2_62, m2_64, m2_67, m2_69, m2_70, m2_71, m2_73, m2_76, m2_79, m2_81, m2_82, m2_83, m2_84, m2_87, m2_88, m2_89, m2_92, m2_93, m2_94, m2_97, m2_98, m2_99, m2_102, m2_103, m2_105, m2_108, m2_109u, m2_111, m2_113, m2_114, m2_117, m2_118, m2_121, m2_123, m2_124, m2_125, m2_126, m2_129, m2_131, m2_132, m2_133, m2_136, m2_139, m2_140, m3_0, m3_1, m3_4, m3_7, m3_9, m3_10, m3_11, m3_14u, m3_15, m3_16, m3_18, m3_21, m3_22, m3_23, m3_26, m3_27, m3_28, m3_29, m3_30, m3_33, m3_34, m3_37, m3_40u, m3_41, m3_42, m3_45, m3_48, m3_49, m3_50, m3_53, m3_54, m3_55, m3_58, m3_60, m3_61, m3_62, m3_63, m3_66, m3_67, m3_68, m3_69, m3_70, m3_73u, m3_74, m3_75, m3_78, m3_79, m3_80, m3_83, m3_84, m3_85, m3_88, m3_90, m3_91, m3_92, m3_93, m3_94, m3_95, m3_98, m3_99, m3_100, m3_101, m3_102, m3_105, m3_106, m3_107, m3_110, m3_111, m3_112, m3_115, m3_116, m3_117, m3_120, m3_121, m3_124, m3_125, m4_0, m4_1, m4_4, m5_0, m5_1, m5_2, m5_5, m5_8, m5_9, m5_10, m5_11, m5_14, m5_15, m5_16, m6_0, m6_1, m6_4, m6_5, m6_6, m6_9, m6_12, m6_13, m6_16, m6_17, m7_0, m7_1, m7_2, m7_5, m7_8, m7_9, m7_10, m7_11, m7_14, m7_15, m7_16, m8_0, m8_1, m8_4, m9_0, m9_1, m9_4, m10_0, m10_1u, m10_2, m10_3, m10_4, m10_7, m10_10, m10_11, m10_14, m10_15, m10_16, m10_17, m10_20, m10_21, m10_22, m10_25, m10_28, m10_29, m11_0, m11_1, m11_2, m11_5, m11_6, m11_7, m11_10, m11_13, m11_14, m11_15, m11_16, m11_17, m11_20u, m11_21, m11_22, m11_23, m11_26, m11_29, m11_30, m11_31, m11_32, m11_33, m11_34, m11_35, m12_0, m12_1u, m12_2, m12_3u, m12_5, m12_6u, m12_8, m12_10, m12_12, m12_15, m12_17, m12_20, m12_23, m12_24, m12_26, m12_27u, m12_27i, m12_27r, m12_29, m12_31i, m12_32, m12_34i, m12_36, m12_39, m12_42, m12_43, m13_0, m13_1, m13_4, m13_5, m13_6, m13_9, m13_10, m13_11, m13_14, m13_15, m13_16, m13_19, m13_20, m13_21, m13_24, m13_25, m13_26, m13_29, m13_30, m13_31, m13_34, m13_35, m13_36, m13_39, m13_40, m13_41u, m13_42, m13_43, m13_44, m13_47, m13_48, m13_51, m13_52, m13_53, m13_54, m13_55, m13_56, m13_57, m13_60, m13_61, m13_62, m13_63, m13_64, m13_67, m13_68, m13_69, m13_70, m13_71, m13_72, m13_73, m13_76, m13_77, m13_78, m13_79, m13_82, m13_85, m14_0, m14_1, m14_2, m14_5, m14_6u, m14_7, m14_8, m14_9, m14_12, m14_13, m14_14, m14_15, m14_18u, m14_18i, m14_18r, m14_19, m14_20, m14_23, m14_24, m14_25, m14_26, m14_27, m14_28, m14_29, m14_30, m14_33u, m14_33i, m14_33r, m14_35, m14_37, m14_40, m14_41, m14_42, m14_43, m14_46, m14_47, m14_49, m14_50, m14_53, m14_56, m14_57, m15_0, m15_1u, m15_2, m15_3, m15_4, m15_7, m15_8u, m15_8i, m15_8r, m15_9, m15_10u, m15_10i, m15_10r, m15_12, m15_14, m15_15, m15_18, m15_19, m15_22, m15_24, m15_25, m15_26, m15_27, m15_28, m15_29, m15_32, m15_33, m15_36, m15_38, m15_39, m15_40, m15_43, m15_44, m15_47, m15_49, m15_50i, m15_51, m15_54, m15_57, m15_58, m15_61, m15_62, m15_63, m15_64, m15_67, m15_70, m16_0, m16_1u, m16_2, m16_3, m16_6, m16_7, m16_8u, m16_10, m16_11u, m16_13, m16_15, m16_16, m16_19, m16_20, m16_23, m16_25, m16_26, m16_28, m16_31, m16_34, m16_35u, m16_35i, m16_35r, m16_37, m16_39, m16_40, m16_43, m16_44, m16_47, m16_49, m16_50, m16_51, m16_53, m16_54, m16_55u, m16_55i, m16_55r, m16_57, m16_59, m16_62, m16_63, m16_66, m16_68, m16_69, m16_71, m16_74, m16_76, m16_77, m16_80, m16_82i, m16_83, m16_86, m16_89, m16_92, m16_95, m16_96, m17_0, m17_1, m17_4, m17_5, m17_6, m17_7, m17_8u, m17_10, m17_12u, m17_14, m17_15u, m17_17, m17_19, m17_22, m17_25, m17_27, m17_28, m17_31, m17_32, m17_33, m17_36, m17_37, m17_38, m17_40, m17_41, m17_42, m17_43, m17_45, m17_48, m17_49u, m17_49i, m17_49r, m17_51, m17_53, m17_55, m17_58, m17_60, m17_61, m17_63i, m17_65, m17_68, m17_71, m17_72, m18_0, m18_1u, m18_3, m18_4, m18_7, m18_8, m18_9u, m18_11, m18_12u, m18_14, m18_16, m18_17, m18_20, m18_21, m18_24, m18_26, m18_27u, m18_27i, m18_27r, m18_29, m18_30, m18_33, m18_35, m18_36, m18_38, m18_41, m18_43, m18_46, m18_48, m18_49, m18_51, m18_52, m18_53, m18_54, m18_56, m18_57, m18_58, m18_61, m18_63, m18_64, m18_65, m18_66i, m18_68, m18_71, m18_74, m18_76, m19_0, m19_1u, m19_2, m19_3, m19_4, m19_7, m19_8, m19_11, m19_12, m19_13, m19_16, m19_17, m19_18, m19_19, m19_20, m19_23, m19_24, m19_25, m19_28, m19_29, m19_30, m19_31, m19_34, m19_37, m19_38i, m19_39, m19_40, m19_41, m19_44, m19_45, m19_48, m19_49, m19_50, m19_53, m19_54, m19_55, m19_56, m19_59, m19_62, m20_0, m20_3, m20_4, m20_5, m20_8u, m20_10, m20_11, m20_12, m20_15, m20_16, m20_19, m20_20, m20_22, m20_25, m20_27, m20_30, m20_31u, m20_33, m20_34, m20_35, m20_38, m20_39, m20_42, m20_45, m20_46, m20_47, m20_50, m20_51, m20_52, m20_55, m20_56, m20_57, m20_60, m20_61, m20_62, m20_65, m20_67u, m20_69, m20_72, m20_74, m20_75, m20_78, m20_80, m20_82, m20_85, m20_87u, m20_89, m20_92, m20_93u, m20_95, m20_97, m20_98, m20_99, m20_100, m20_102, m20_105u, m20_107, m20_109, m20_111, m20_114, m20_115, m20_116, m20_118, m20_121, m20_122, m20_125, m20_126u, m20_128, m20_130, m20_133u, m20_135, m20_137, m20_139, m20_142, m20_143, m20_146, m20_148, m20_151, m20_152, m20_153, m20_155, m20_158, m20_160, m20_163, m20_164, m20_167, m20_168, m20_171, m20_172, m20_173, m20_175, m20_176, m20_179, m20_181, m20_184, m20_185, m20_188, m20_189, m20_192, m20_193, m20_194, m20_196, m20_197, m20_200, m20_202, m20_205, m20_206, m20_209, m20_210, m20_213, m20_214, m20_215, m20_217, m20_220, m20_222, m20_225, m20_226, m20_229, m20_230, m20_233, m20_234, m20_235, m20_237, m20_240, m20_241, m20_244, m20_245, m20_246, m20_248, m20_251, m20_253, m20_256, m20_257, m20_258, m20_260, m20_261, m20_262, m20_263, m20_265, m20_268u, m20_270, m20_272, m20_275, m20_277, m20_278, m20_281, m20_282, m20_285, m20_287, m20_290, m20_292u, m20_294, m20_296, m20_298, m20_301, m20_302, m20_305, m20_306, nb0, nb1, ou_a, Option.toList_some, Option.toList_none, List.nil_append, List.cons_append, getA_set2, setA_len, inB_iff, A0g_0, A0g_1, A0g_2, A0g_3, A0g_4, A0g_5, A0g_6, A0g_7, A0g_8, A0g_9, A0g_10, A0g_11, A0g_12, A0g_13, A0g_14, A0g_15, A0g_16, A0g_17, A0g_18, A0g_19, A0l_0, A0l_1, A0l_2, A0l_3, A0l_4, A0l_5, A0l_6, A0l_7, A0l_8, A0l_9, A0l_10, A0l_11, A0l_12, A0l_13, A0l_14, A0l_15, A0l_16, A0l_17, A0l_18, A0l_19]
      refine ⟨?_, ?_⟩ <;> simp only [ou_a, setA_len, put_len, put_tot, pad_0, tot_nil, List.length_nil, List.length_cons, A0l_0, A0l_1, A0l_2, A0l_3, A0l_4, A0l_5, A0l_6, A0l_7, A0l_8, A0l_9, A0l_10, A0l_11, A0l_12, A0l_13, A0l_14, A0l_15, A0l_16, A0l_17, A0l_18, A0l_19] <;> simp [setA_len, put_len, put_tot, pad_0, tot_nil, List.length_nil, List.length_cons, A0l_0, A0l_1, A0l_2, A0l_3, A0l_4, A0l_5, A0l_6, A0l_7, A0l_8, A0l_9, A0l_10, A0l_11, A0l_12, A0l_13, A0l_14, A0l_15, A0l_16, A0l_17, A0l_18, A0l_19]
    by_cases b4 : i1 < i2
    · simp [a1, b1, b2, b3, b4, m0_0, m0_1, m0_4, m0_5, m0_12, m0_13, m0_20, m0_21, m0_28, m0_29, m0_36, m0_37, m0_44, m0_45, m0_52, m0_53, m0_60, m0_61, m0_68, m0_69, m0_75, m0_76, m0_82, m0_83, m0_89, m0_90, m0_96, m0_97, m0_104, m0_105, m0_112, m0_113, m0_120, m0_121, m0_128, m0_129, m0_136, m0_137, m0_144, m0_145, m0_152, m0_153, m0_160, m0_161u, m0_162, m0_163, m0_164, m0_167, m0_168i, m0_169, m0_170, m0_172, m0_175, m0_177i, m0_178, m0_179, m0_180, m0_183, m0_184, m0_185, m0_188, m0_189, m0_190, m0_193, m0_194, m0_195, m0_198, m0_199, m0_200, m0_203, m0_204u, m0_205, m0_206, m0_207, m0_210, m0_211, m0_214, m0_215, m0_216, m0_217, m0_220, m0_223, m0_224, m0_227, m1_0, m1_1, m1_2, m1_5, m1_6, m1_7, m1_10, m1_11u, m1_12, m1_13, m1_15, m1_18, m1_19, m1_22, m1_23, m1_24, m1_25, m1_26, m1_29, m1_30, m1_31, m1_32, m1_33, m1_36, m1_37, m1_38, m1_39, m1_40, m1_43, m1_44, m1_45, m1_46, m1_47, m1_50, m1_51, m1_52, m1_53, m1_54, m1_57, m1_58, m1_59, m1_60, m1_63, m1_66, m2_0, m2_1, m2_4, m2_5, m2_8, m2_11, m2_12, m2_13, m2_14, m2_15, m2_18, m2_19, m2_22, m2_25, m2_27, m2_28, m2_29, m2_30, m2_33, m2_34, m2_35, m2_38, m2_40, m2_41, m2_42, m2_43, m2_46, m2_47, m2_48, m2_51, m2_53, m2_54, m2_56, m2_57, m2_60, m2_62, m2_64, m2_67, m2_69, m2_70, m2_71, m2_73, m2_76, m2_79, m2_81, m2_82, m2_83, m2_84, m2_87, m2_88, m2_89, m2_92, m2_93, m2_94, m2_97, m2_98, m2_99, m2_102, m2_103, m2_105, m2_108, m2_109u, m2_111, m2_113, m2_114, m2_117, m2_118, m2_121, m2_123, m2_124, m2_125, m2_126, m2_129, m2_131, m2_132, m2_133, m2_136, m2_139, m2_140, m3_0, m3_1, m3_4, m3_7, m3_9, m3_10, m3_11, m3_14u, m3_15, m3_16, m3_18, m3_21, m3_22, m3_23, m3_26, m3_27, m3_28, m3_29, m3_30, m3_33, m3_34, m3_37, m3_40u, m3_41, m3_42, m3_45, m3_48, m3_49, m3_50, m3_53, m3_54, m3_55, m3_58, m3_60, m3_61, m3_62, m3_63, m3_66, m3_67, m3_68, m3_69, m3_70, m3_73u, m3_74, m3_75, m3_78, m3_79, m3_80, m3_83, m3_84, m3_85, m3_88, m3_90, m3_91, m3_92, m3_93, m3_94, m3_95, m3_98, m3_99, m3_100, m3_101, m3_102, m3_105, m3_106, m3_107, m3_110, m3_111, m3_112, m3_115, m3_116, m3_117, m3_120, m3_121, m3_124, m3_125, m4_0, m4_1, m4_4, m5_0, m5_1, m5_2, m5_5, m5_8, m5_9, m5_10, m5_11, m5_14, m5_15, m5_16, m6_0, m6_1, m6_4, m6_5, m6_6, m6_9, m6_12, m6_13, m6_16, m6_17, m7_0, m7_1, m7_2, m7_5, m7_8, m7_9, m7_10, m7_11, m7_14, m7_15, m7_16, m8_0, m8_1, m8_4, m9_0, m9_1, m9_4, m10_0, m10_1u, m10_2, m10_3, m10_4, m10_7, m10_10, m10_11, m10_14, m10_15, m10_16, m10_17, m10_20, m10_21, m10_22, m10_25, m10_28, m10_29, m11_0, m11_1, m11_2, m11_5, m11_6, m11_7, m11_10, m11_13, m11_14, m11_15, m11_16, m11_17, m11_20u, m11_21, m11_22, m11_23, m11_26, m11_29, m11_30, m11_31, m11_32, m11_33, m11_34, m11_35, m12_0, m12_1u, m12_2, m12_3u, m12_5, m12_6u, m12_8, m12_10, m12_12, m12_15, m12_17, m12_20, m12_23, m12_24, m12_26, m12_27u, m12_27i, m12_27r, m12_29, m12_31i, m12_32, m12_34i, m12_36, m12_39, m12_42, m12_43, m13_0, m13_1, m13_4, m13_5, m13_6, m13_9, m13_10, m13_11, m13_14, m13_15, m13_16, m13_19, m13_20, m13_21, m13_24, m13_25, m13_26, m13_29, m13_30, m13_31, m13_34, m13_35, m13_36, m13_39, m13_40, m13_41u, m13_42, m13_43, m13_44, m13_47, m13_48, m13_51, m13_52, m13_53, m13_54, m13_55, m13_56, m13_57, m13_60, m13_61, m13_62, m13_63, m13_64, m13_67, m13_68, m13_69, m13_70, m13_71, m13_72, m13_73, m13_76, m13_77, m13_78, m13_79, m13_82, m13_85, m14_0, m14_1, m14_2, m14_5, m14_6u, m14_7, m14_8, m14_9, m14_12, m14_13, m14_14, m14_15, m14_18u, m14_18i, m14_18r, m14_19, m14_20, m14_23, m14_24, m14_25, m14_26, m14_27, m14_28, m14_29, m14_30, m14_33u, m14_33i, m14_33r, m14_35, m14_37, m14_40, m14_41, m14_42, m14_43, m14_46, m14_47, m14_49, m14_50, m14_53, m14_56, m14_57, m15_0, m15_1u, m15_2, m15_3, m15_4, m15_7, m15_8u, m15_8i, m15_8r, m15_9, m15_10u, m15_10i, m15_10r, m15_12, m15_14, m15_15, m15_18, m15_19, m15_22, m15_24, m15_25, m15_26, m15_27, m15_28, m15_29, m15_32, m15_33, m15_36, m15_38, m15_39, m15_40, m15_43, m15_44, m15_47, m15_49, m15_50i, m15_51, m15_54, m15_57, m15_58, m15_61, m15_62, m15_63, m15_64, m15_67, m15_70, m16_0, m16_1u, m16_2, m16_3, m16_6, m16_7, m16_8u, m16_10, m16_11u, m16_13, m16_15, m16_16, m16_19, m16_20, m16_23, m16_25, m16_26, m16_28, m16_31, m16_34, m16_35u, m16_35i, m16_35r, m16_37, m16_39, m16_40, m16_43, m16_44, m16_47, m16_49, m16_50, m16_51, m16_53, m16_54, m16_55u, m16_55i, m16_55r, m16_57, m16_59, m16_62, m16_63, m16_66, m16_68, m16_69, m16_71, m16_74, m16_76, m16_77, m16_80, m16_82i, m16_83, m16_86, m16_89, m16_92, m16_95, m16_96, m17_0, m17_1, m17_4, m17_5, m17_6, m17_7, m17_8u, m17_10, m17_12u, m17_14, m17_15u, m17_17, m17_19, m17_22, m17_25, m17_27, m17_28, m17_31, m17_32, m17_33, m17_36, m17_37, m17_38, m17_40, m17_41, m17_42, m17_43, m17_45, m17_48, m17_49u, m17_49i, m17_49r, m17_51, m17_53, m17_55, m17_58, m17_60, m17_61, m17_63i, m17_65, m17_68, m17_71, m17_72, m18_0, m18_1u, m18_3, m18_4, m18_7, m18_8, m18_9u, m18_11, m18_12u, m18_14, m18_16, m18_17, m18_20, m18_21, m18_24, m18_26, m18_27u, m18_27i, m18_27r, m18_29, m18_30, m18_33, m18_35, m18_36, m18_38, m18_41, m18_43, m18_46, m18_48, m18_49, m18_51, m18_52, m18_53, m18_54, m18_56, m18_57, m18_58, m18_61, m18_63, m18_64, m18_65, m18_66i, m18_68, m18_71, m18_74, m18_76, m19_0, m19_1u, m19_2, m19_3, m19_4, m19_7, m19_8, m19_11, m19_12, m19_13, m19_16, m19_17, m19_18, m19_19, m19_20, m19_23, m19_24, m19_25, m19_28, m19_29, m19_30, m19_31, m19_34, m19_37, m19_38i, m19_39, m19_40, m19_41, m19_44, m19_45, m19_48, m19_49, m19_50, m19_53, m19_54, m19_55, m19_56, m19_59, m19_62, m20_0, m20_3, m20_4, m20_5, m20_8u, m20_10, m20_11, m20_12, m20_15, m20_16, m20_19, m20_20, m20_22, m20_25, m20_27, m20_30, m20_31u, m20_33, m20_34, m20_35, m20_38, m20_39, m20_42, m20_45, m20_46, m20_47, m20_50, m20_51, m20_52, m20_55, m20_56, m20_57, m20_60, m20_61, m20_62, m20_65, m20_67u, m20_69, m20_72, m20_74, m20_75, m20_78, m20_80, m20_82, m20_85, m20_87u, m20_89, m20_92, m20_93u, m20_95, m20_97, m20_98, m20_99, m20_100, m20_102, m20_105u, m20_107, m20_109, m20_111, m20_114, m20_115, m20_116, m20_118, m20_121, m20_122, m20_125, m20_126u, m20_128, m20_130, m20_133u, m20_135, m20_137, m20_139, m20_142, m20_143, m20_146, m20_148, m20_151, m20_152, m20_153, m20_155, m20_158, m20_160, m20_163, m20_164, m20_167, m20_168, m20_171, m20_172, m20_173, m20_175, m20_176, m20_179, m20_181, m20_184, m20_185, m20_188, m20_189, m20_192, m20_193, m20_194, m20_196, m20_197, m20_200, m20_202, m20_205, m20_206, m20_209, m20_210, m20_213, m20_214, m20_215, m20_217, m20_220, m20_222, m20_225, m20_226, m20_229, m20_230, m20_233, m20_234, m20_235, m20_237, m20_240, m20_241, m20_244, m20_245, m20_246, m20_248, m20_251, m20_253, m20_256, m20_257, m20_258, m20_260, m20_261, m20_262, m20_263, m20_265, m20_268u, m20_270, m20_272, m20_275, m20_277, m20_278, m20_281, m20_282, m20_285, m20_287, m20_290, m20_292u, m20_294, m20_296, m20_298, m20_301, m20_302, m20_305, m20_306, nb0, nb1, ou_a, Option.toList_some, Option.toList_none, List.nil_append, List.cons_append, getA_set2, setA_len, inB_iff, A0g_0, A0g_1, A0g_2, A0g_3, A0g_4, A0g_5, A0g_6, A0g_7, A0g_8, A0g_9, A0g_10, A0g_11, A0g_12, A0g_13, A0g_14, A0g_15, A0g_16, A0g_17, A0g_18, A0g_19, A0l_0, A0l_1, A0l_2, A0l_3, A0l_4, A0l_5, A0l_6, A0l_7, A0l_8, A0l_9, A0l_10, A0l_11, A0l_12, A0l_13, A0l_14, A0l_15, A0l_16, A0l_17, A0l_18, A0l_19]
      refine ⟨?_, ?_⟩ <;> simp only [ou_a, setA_len, put_len, put_tot, pad_0, tot_nil, List.length_nil, List.length_cons, A0l_0, A0l_1, A0l_2, A0l_3, A0l_4, A0l_5, A0l_6, A0l_7, A0l_8, A0l_9, A0l_10, A0l_11, A0l_12, A0l_13, A0l_14, A0l_15, A0l_16, A0l_17, A0l_18, A0l_19] <;> simp [setA_len, put_len, put_tot, pad_0, tot_nil, List.length_nil, List.length_cons, A0l_0, A0l_1, A0l_2, A0l_3, A0l_4, A0l_5, A0l_6, A0l_7, A0l_8, A0l_9, A0l_10, A0l_11, A0l_12, A0l_13, A0l_14, A0l_15, A0l_16, A0l_17, A0l_18, A0l_19]
    by_cases b5 : i3 < 1
    · simp [a1, b1, b2, b3, b4, b5, m0_0, m0_1, m0_4, m0_5, m0_12, m0_13, m0_20, m0_21, m0_28, m0_29, m0_36, m0_37, m0_44, m0_45, m0_52, m0_53, m0_60, m0_61, m0_68, m0_69, m0_75, m0_76, m0_82, m0_83, m0_89, m0_90, m0_96, m0_97, m0_104, m0_105, m0_112, m0_113, m0_120, m0_121, m0_128, m0_129, m0_136, m0_137, m0_144, m0_145, m0_152, m0_153, m0_160, m0_161u, m0_162, m0_163, m0_164, m0_167, m0_168i, m0_169, m0_170, m0_172, m0_175, m0_177i, m0_178, m0_179, m0_180, m0_183, m0_184, m0_185, m0_188, m0_189, m0_190, m0_193, m0_194, m0_195, m0_198, m0_199, m0_200, m0_203, m0_204u, m0_205, m0_206, m0_207, m0_210, m0_211, m0_214, m0_215, m0_216, m0_217, m0_220, m0_223, m0_224, m0_227, m1_0, m1_1, m1_2, m1_5, m1_6, m1_7, m1_10, m1_11u, m1_12, m1_13, m1_15, m1_18, m1_19, m1_22, m1_23, m1_24, m1_25, m1_26, m1_29, m1_30, m1_31, m1_32, m1_33, m1_36, m1_37, m1_38, m1_39, m1_40, m1_43, m1_44, m1_45, m1_46, m1_47, m1_50, m1_51, m1_52, m1_53, m1_54, m1_57, m1_58, m1_59, m1_60, m1_63, m1_66, m2_0, m2_1, m2_4, m2_5, m2_8, m2_11, m2_12, m2_13, m2_14, m2_15, m2_18, m2_19, m2_22, m2_25, m2_27, m2_28, m2_29, m2_30, m2_33, m2_34, m2_35, m2_38, m2_40, m2_41, m2_42, m2_43, m2_46, m2_47, m2_48, m2_51, m2_53, m2_54, m2_56, m2_57, m2_60, m2_62, m2_64, m2_67, m2_69, m2_70, m2_71, m2_73, m2_76, m2_79, m2_81, m2_82, m2_83, m2_84, m2_87, m2_88, m2_89, m2_92, m2_93, m2_94, m2_97, m2_98, m2_99, m2_102, m2_103, m2_105, m2_108, m2_109u, m2_111, m2_113, m2_114, m2_117, m2_118, m2_121, m2_123, m2_124, m2_125, m2_126, m2_129, m2_131, m2_132, m2_133, m2_136, m2_139, m2_140, m3_0, m3_1, m3_4, m3_7, m3_9, m3_10, m3_11, m3_14u, m3_15, m3_16, m3_18, m3_21, m3_22, m3_23, m3_26, m3_27, m3_28, m3_29, m3_30, m3_33, m3_34, m3_37, m3_40u, m3_41, m3_42, m3_45, m3_48, m3_49, m3_50, m3_53, m3_54, m3_55, m3_58, m3_60, m3_61, m3_62, m3_63, m3_66, m3_67, m3_68, m3_69, m3_70, m3_73u, m3_74, m3_75, m3_78, m3_79, m3_80, m3_83, m3_84, m3_85, m3_88, m3_90, m3_91, m3_92, m3_93, m3_94, m3_95, m3_98, m3_99, m3_100, m3_101, m3_102, m3_105, m3_106, m3_107, m3_110, m3_111, m3_112, m3_115, m3_116, m3_117, m3_120, m3_121, m3_124, m3_125, m4_0, m4_1, m4_4, m5_0, m5_1, m5_2, m5_5, m5_8, m5_9, m5_10, m5_11, m5_14, m5_15, m5_16, m6_0, m6_1, m6_4, m6_5, m6_6, m6_9, m6_12, m6_13, m6_16, m6_17, m7_0, m7_1, m7_2, m7_5, m7_8, m7_9, m7_10, m7_11, m7_14, m7_15, m7_16, m8_0, m8_1, m8_4, m9_0, m9_1, m9_4, m10_0, m10_1u, m10_2, m10_3, m10_4, m10_7, m10_10, m10_11, m10_14, m10_15, m10_16, m10_17, m10_20, m10_21, m10_22, m10_25, m10_28, m10_29, m11_0, m11_1, m11_2, m11_5, m11_6, m11_7, m11_10, m11_13, m11_14, m11_15, m11_16, m11_17, m11_20u, m11_21, m11_22, m11_23, m11_26, m11_29, m11_30, m11_31, m11_32, m11_33, m11_34, m11_35, m12_0, m12_1u, m12_2, m12_3u, m12_5, m12_6u, m12_8, m12_10, m12_12, m12_15, m12_17, m12_20, m12_23, m12_24, m12_26, m12_27u, m12_27i, m12_27r, m12_29, m12_31i, m12_32, m12_34i, m12_36, m12_39, m12_42, m12_43, m13_0, m13_1, m13_4, m13_5, m13_6, m13_9, m13_10, m13_11, m13_14, m13_15, m13_16, m13_19, m13_20, m13_21, m13_24, m13_25, m13_26, m13_29, m13_30, m13_31, m13_34, m13_35, m13_36, m13_39, m13_40, m13_41u, m13_42, m13_43, m13_44, m13_47, m13_48, m13_51, m13_52, m13_53, m13_54, m13_55, m13_56, m13_57, m13_60, m13_61, m13_62, m13_63, m13_64, m13_67, m13_68, m13_69, m13_70, m13_71, m13_72, m13_73, m13_76, m13_77, m13_78, m13_79, m13_82, m13_85, m14_0, m14_1, m14_2, m14_5, m14_6u, m14_7, m14_8, m14_9, m14_12, m14_13, m14_14, m14_15, m14_18u, m14_18i, m14_18r, m14_19, m14_20, m14_23, m14_24, m14_25, m14_26, m14_27, m14_28, m14_29, m14_30, m14_33u, m14_33i, m14_33r, m14_35, m14_37, m14_40, m14_41, m14_42, m14_43, m14_46, m14_47, m14_49, m14_50, m14_53, m14_56, m14_57, m15_0, m15_1u, m15_2, m15_3, m15_4, m15_7, m15_8u, m15_8i, m15_8r, m15_9, m15_10u, m15_10i, m15_10r, m15_12, m15_14, m15_15, m15_18, m15_19, m15_22, m15_24, m15_25, m15_26, m15_27, m15_28, m15_29, m15_32, m15_33, m15_36, m15_38, m15_39, m15_40, m15_43, m15_44, m15_47, m15_49, m15_50i, m15_51, m15_54, m15_57, m15_58, m15_61, m15_62, m15_63, m15_64, m15_67, m15_70, m16_0, m16_1u, m16_2, m16_3, m16_6, m16_7, m16_8u, m16_10, m16_11u, m16_13, m16_15, m16_16, m16_19, m16_20, m16_23, m16_25, m16_26, m16_28, m16_31, m16_34, m16_35u, m16_35i, m16_35r, m16_37, m16_39, m16_40, m16_43, m16_44, m16_47, m16_49, m16_50, m16_51, m16_53, m16_54, m16_55u, m16_55i, m16_55r, m16_57, m16_59, m16_62, m16_63, m16_66, m16_68, m16_69, m16_71, m16_74, m16_76, m16_77, m16_80, m16_82i, m16_83, m16_86, m16_89, m16_92, m16_95, m16_96, m17_0, m17_1, m17_4, m17_5, m17_6, m17_7, m17_8u, m17_10, m17_12u, m17_14, m17_15u, m17_17, m17_19, m17_22, m17_25, m17_27, m17_28, m17_31, m17_32, m17_33, m17_36, m17_37, m17_38, m17_40, m17_41, m17_42, m17_43, m17_45, m17_48, m17_49u, m17_49i, m17_49r, m17_51, m17_53, m17_55, m17_58, m17_60, m17_61, m17_63i, m17_65, m17_68, m17_71, m17_72, m18_0, m18_1u, m18_3, m18_4, m18_7, m18_8, m18_9u, m18_11, m18_12u, m18_14, m18_16, m18_17, m18_20, m18_21, m18_24, m18_26, m18_27u, m18_27i, m18_27r, m18_29, m18_30, m18_33, m18_35, m18_36, m18_38, m18_41, m18_43, m18_46, m18_48, m18_49, m18_51, m18_52, m18_53, m18_54, m18_56, m18_57, m18_58, m18_61, m18_63, m18_64, m18_65, m18_66i, m18_68, m18_71, m18_74, m18_76, m19_0, m19_1u, m19_2, m19_3, m19_4, m19_7, m19_8, m19_11, m19_12, m19_13, m19_16, m19_17, m19_18, m19_19, m19_20, m19_23, m19_24, m19_25, m19_28, m19_29, m19_30, m19_31, m19_34, m19_37, m19_38i, m19_39, m19_40, m19_41, m19_44, m19_45, m19_48, m19_49, m19_50, m19_53, m19_54, m19_55, m19_56, m19_59, m19_62, m20_0, m20_3, m20_4, m20_5, m20_8u, m20_10, m20_11, m20_12, m20_15, m20_16, m20_19, m20_20, m20_22, m20_25, m20_27, m20_30, m20_31u, m20_33, m20_34, m20_35, m20_38, m20_39, m20_42, m20_45, m20_46, m20_47, m20_50, m20_51, m20_52, m20_55, m20_56, m20_57, m20_60, m20_61, m20_62, m20_65, m20_67u, m20_69, m20_72, m20_74, m20_75, m20_78, m20_80, m20_82, m20_85, m20_87u, m20_89, m20_92, m20_93u, m20_95, m20_97, m20_98, m20_99, m20_100, m20_102, m20_105u, m20_107, m20_109, m20_111, m20_114, m20_115, m20_116, m20_118, m20_121, m20_122, m20_125, m20_126u, m20_128, m20_130, m20_133u, m20_135, m20_137, m20_139, m20_142, m20_143, m20_146, m20_148, m20_151, m20_152, m20_153, m20_155, m20_158, m20_160, m20_163, m20_164, m20_167, m20_168, m20_171, m20_172, m20_173, m20_175, m20_176, m20_179, m20_181, m20_184, m20_185, m20_188, m20_189, m20_192, m20_193, m20_194, m20_196, m20_197, m20_200, m20_202, m20_205, m20_206, m20_209, m20_210, m20_213, m20_214, m20_215, m20_217, m20_220, m20_222, m20_225, m20_226, m20_229, m20_230, m20_233, m20_234, m20_235, m20_237, m20_240, m20_241, m20_244, m20_245, m20_246, m20_248, m20_251, m20_253, m20_256, m20_257, m20_258, m20_260, m20_261, m20_262, m20_263, m20_265, m20_268u, m20_270, m20_272, m20_275, m20_277, m20_278, m20_281, m20_282, m20_285, m20_287, m20_290, m20_292u, m20_294, m20_296, m20_298, m20_301, m20_302, m20_305, m20_306, nb0, nb1, ou_a, Option.toList_some, Option.toList_none, List.nil_append, List.cons_append, getA_set2, setA_len, inB_iff, A0g_0, A0g_1, A0g_2, A0g_3, A0g_4, A0g_5, A0g_6, A0g_7, A0g_8, A0g_9, A0g_10, A0g_11, A0g_12, A0g_13, A0g_14, A0g_15, A0g_16, A0g_17, A0g_18, A0g_19, A0l_0, A0l_1, A0l_2, A0l_3, A0l_4, A0l_5, A0l_6, A0l_7, A0l_8, A0l_9, A0l_10, A0l_11, A0l_12, A0l_13, A0l_14, A0l_15, A0l_16, A0l_17, A0l_18, A0l_19]
      refine ⟨?_, ?_⟩ <;> simp only [ou_a, setA_len, put_len, put_tot, pad_0, tot_nil, List.length_nil, List.length_cons, A0l_0, A0l_1, A0l_2, A0l_3, A0l_4, A0l_5, A0l_6, A0l_7, A0l_8, A0l_9, A0l_10, A0l_11, A0l_12, A0l_13, A0l_14, A0l_15, A0l_16, A0l_17, A0l_18, A0l_19] <;> simp [setA_len, put_len, put_tot, pad_0, tot_nil, List.length_nil, List.length_cons, A0l_0, A0l_1, A0l_2, A0l_3, A0l_4, A0l_5, A0l_6, A0l_7, A0l_8, A0l_9, A0l_10, A0l_11, A0l_12, A0l_13, A0l_14, A0l_15, A0l_16, A0l_17, A0l_18, A0l_19]
    by_cases b6 : i2 < i3
    · simp [a1, b1, b2, b3, b4, b5, b6, m0_0, m0_1, m0_4, m0_5, m0_12, m0_13, m0_20, m0_21, m0_28, m0_29, m0_36, m0_37, m0_44, m0_45, m0_52, m0_53, m0_60, m0_61, m0_68, m0_69, m0_75, m0_76, m0_82, m0_83, m0_89, m0_90, m0_96, m0_97, m0_104, m0_105, m0_112, m0_113, m0_120, m0_121, m0_128, m0_129, m0_136, m0_137, m0_144, m0_145, m0_152, m0_153, m0_160, m0_161u, m0_162, m0_163, m0_164, m0_167, m0_168i, m0_169, m0_170, m0_172, m0_175, m0_177i, m0_178, m0_179, m0_180, m0_183, m0_184, m0_185, m0_188, m0_189, m0_190, m0_193, m0_194, m0_195, m0_198, m0_199, m0_200, m0_203, m0_204u, m0_205, m0_206, m0_207, m0_210, m0_211, m0_214, m0_215, m0_216, m0_217, m0_220, m0_223, m0_224, m0_227, m1_0, m1_1, m1_2, m1_5, m1_6, m1_7, m1_10, m1_11u, m1_12, m1_13, m1_15, m1_18, m1_19, m1_22, m1_23, m1_24, m1_25, m1_26, m1_29, m1_30, m1_31, m1_32, m1_33, m1_36, m1_37, m1_38, m1_39, m1_40, m1_43, m1_44, m1_45, m1_46, m1_47, m1_50, m1_51, m1_52, m1_53, m1_54, m1_57, m1_58, m1_59, m1_60, m1_63, m1_66, m2_0, m2_1, m2_4, m2_5, m2_8, m2_11, m2_12, m2_13, m2_14, m2_15, m2_18, m2_19, m2_22, m2_25, m2_27, m2_28, m2_29, m2_30, m2_33, m2_34, m2_35, m2_38, m2_40, m2_41, m2_42, m2_43, m2_46, m2_47, m2_48, m2_51, m2_53, m2_54, m2_56, m2_57, m2_60, m2_62, m2_64, m2_67, m2_69, m2_70, m2_71, m2_73, m2_76, m2_79, m2_81, m2_82, m2_83, m2_84, m2_87, m2_88, m2_89, m2_92, m2_93, m2_94, m2_97, m2_98, m2_99, m2_102, m2_103, m2_105, m2_108, m2_109u, m2_111, m2_113, m2_114, m2_117, m2_118, m2_121, m2_123, m2_124, m2_125, m2_126, m2_129, m2_131, m2_132, m2_133, m2_136, m2_139, m2_140, m3_0, m3_1, m3_4, m3_7, m3_9, m3_10, m3_11, m3_14u, m3_15, m3_16, m3_18, m3_21, m3_22, m3_23, m3_26, m3_27, m3_28, m3_29, m3_30, m3_33, m3_34, m3_37, m3_40u, m3_41, m3_42, m3_45, m3_48, m3_49, m3_50, m3_53, m3_54, m3_55, m3_58, m3_60, m3_61, m3_62, m3_63, m3_66, m3_67, m3_68, m3_69, m3_70, m3_73u, m3_74, m3_75, m3_78, m3_79, m3_80, m3_83, m3_84, m3_85, m3_88, m3_90, m3_91, m3_92, m3_93, m3_94, m3_95, m3_98, m3_99, m3_100, m3_101, m3_102, m3_105, m3_106, m3_107, m3_110, m3_111, m3_112, m3_115, m3_116, m3_117, m3_120, m3_121, m3_124, m3_125, m4_0, m4_1, m4_4, m5_0, m5_1, m5_2, m5_5, m5_8, m5_9, m5_10, m5_11, m5_14, m5_15, m5_16, m6_0, m6_1, m6_4, m6_5, m6_6, m6_9, m6_12, m6_13, m6_16, m6_17, m7_0, m7_1, m7_2, m7_5, m7_8, m7_9, m7_10, m7_11, m7_14, m7_15, m7_16, m8_0, m8_1, m8_4, m9_0, m9_1, m9_4, m10_0, m10_1u, m10_2, m10_3, m10_4, m10_7, m10_10, m10_11, m10_14, m10_15, m10_16, m10_17, m10_20, m10_21, m10_22, m10_25, m10_28, m10_29, m11_0, m11_1, m11_2, m11_5, m11_6, m11_7, m11_10, m11_13, m11_14, m11_15, m11_16, m11_17, m11_20u, m11_21, m11_22, m11_23, m11_26, m11_29, m11_30, m11_31, m11_32, m11_33, m11_34, m11_35, m12_0, m12_1u, m12_2, m12_3u, m12_5, m12_6u, m12_8, m12_10, m12_12, m12_15, m12_17, m12_20, m12_23, m12_24, m12_26, m12_27u, m12_27i, m12_27r, m12_29, m12_31i, m12_32, m12_34i, m12_36, m12_39, m12_42, m12_43, m13_0, m13_1, m13_4, m13_5, m13_6, m13_9, m13_10, m13_11, m13_14, m13_15, m13_16, m13_19, m13_20, m13_21, m13_24, m13_25, m13_26, m13_29, m13_30, m13_31, m13_34, m13_35, m13_36, m13_39, m13_40, m13_41u, m13_42, m13_43, m13_44, m13_47, m13_48, m13_51, m13_52, m13_53, m13_54, m13_55, m13_56, m13_57, m13_60, m13_61, m13_62, m13_63, m13_64, m13_67, m13_68, m13_69, m13_70, m13_71, m13_72, m13_73, m13_76, m13_77, m13_78, m13_79, m13_82, m13_85, m14_0, m14_1, m14_2, m14_5, m14_6u, m14_7, m14_8, m14_9, m14_12, m14_13, m14_14, m14_15, m14_18u, m14_18i, m14_18r, m14_19, m14_20, m14_23, m14_24, m14_25, m14_26, m14_27, m14_28, m14_29, m14_30, m14_33u, m14_33i, m14_33r, m14_35, m14_37, m14_40, m14_41, m14_42, m14_43, m14_46, m14_47, m14_49, m14_50, m14_53, m14_56, m14_57, m15_0, m15_1u, m15_2, m15_3, m15_4, m15_7, m15_8u, m15_8i, m15_8r, m15_9, m15_10u, m15_10i, m15_10r, m15_12, m15_14, m15_15, m15_18, m15_19, m15_22, m15_24, m15_25, m15_26, m15_27, m15_28, m15_29, m15_32, m15_33, m15_36, m15_38, m15_39, m15_40, m15_43, m15_44, m15_47, m15_49, m15_50i, m15_51, m15_54, m15_57, m15_58, m15_61, m15_62, m15_63, m15_64, m15_67, m15_70, m16_0, m16_1u, m16_2, m16_3, m16_6, m16_7, m16_8u, m16_10, m16_11u, m16_13, m16_15, m16_16, m16_19, m16_20, m16_23, m16_25, m16_26, m16_28, m16_31, m16_34, m16_35u, m16_35i, m16_35r, m16_37, m16_39, m16_40, m16_43, m16_44, m16_47, m16_49, m16_50, m16_51, m16_53, m16_54, m16_55u, m16_55i, m16_55r, m16_57, m16_59, m16_62, m16_63, m16_66, m16_68, m16_69, m16_71, m16_74, m16_76, m16_77, m16_80, m16_82i, m16_83, m16_86, m16_89, m16_92, m16_95, m16_96, m17_0, m17_1, m17_4, m17_5, m17_6, m17_7, m17_8u, m17_10, m17_12u, m17_14, m17_15u, m17_17, m17_19, m17_22, m17_25, m17_27, m17_28, m17_31, m17_32, m17_33, m17_36, m17_37, m17_38, m17_40, m17_41, m17_42, m17_43, m17_45, m17_48, m17_49u, m17_49i, m17_49r, m17_51, m17_53, m17_55, m17_58, m17_60, m17_61, m17_63i, m17_65, m17_68, m17_71, m17_72, m18_0, m18_1u, m18_3, m18_4, m18_7, m18_8, m18_9u, m18_11, m18_12u, m18_14, m18_16, m18_17, m18_20, m18_21, m18_24, m18_26, m18_27u, m18_27i, m18_27r, m18_29, m18_30, m18_33, m18_35, m18_36, m18_38, m18_41, m18_43, m18_46, m18_48, m18_49, m18_51, m18_52, m18_53, m18_54, m18_56, m18_57, m18_58, m18_61, m18_63, m18_64, m18_65, m18_66i, m18_68, m18_71, m18_74, m18_76, m19_0, m19_1u, m19_2, m19_3, m19_4, m19_7, m19_8, m19_11, m19_12, m19_13, m19_16, m19_17, m19_18, m19_19, m19_20, m19_23, m19_24, m19_25, m19_28, m19_29, m19_30, m19_31, m19_34, m19_37, m19_38i, m19_39, m19_40, m19_41, m19_44, m19_45, m19_48, m19_49, m19_50, m19_53, m19_54, m19_55, m19_56, m19_59, m19_62, m20_0, m20_3, m20_4, m20_5, m20_8u, m20_10, m20_11, m20_12, m20_15, m20_16, m20_19, m20_20, m20_22, m20_25, m20_27, m20_30, m20_31u, m20_33, m20_34, m20_35, m20_38, m20_39, m20_42, m20_45, m20_46, m20_47, m20_50, m20_51, m20_52, m20_55, m20_56, m20_57, m20_60, m20_61, m20_62, m20_65, m20_67u, m20_69, m20_72, m20_74, m20_75, m20_78, m20_80, m20_82, m20_85, m20_87u, m20_89, m20_92, m20_93u, m20_95, m20_97, m20_98, m20_99, m20_100, m20_102, m20_105u, m20_107, m20_109, m20_111, m20_114, m20_115, m20_116, m20_118, m20_121, m20_122, m20_125, m20_126u, m20_128, m20_130, m20_133u, m20_135, m20_137, m20_139, m20_142, m20_143, m20_146, m20_148, m20_151, m20_152, m20_153, m20_155, m20_158, m20_160, m20_163, m20_164, m20_167, m20_168, m20_171, m20_172, m20_173, m20_175, m20_176, m20_179, m20_181, m20_184, m20_185, m20_188, m20_189, m20_192, m20_193, m20_194, m20_196, m20_197, m20_200, m20_202, m20_205, m20_206, m20_209, m20_210, m20_213, m20_214, m20_215, m20_217, m20_220, m20_222, m20_225, m20_226, m20_229, m20_230, m20_233, m20_234, m20_235, m20_237, m20_240, m20_241, m20_244, m20_245, m20_246, m20_248, m20_251, m20_253, m20_256, m20_257, m20_258, m20_260, m20_261, m20_262, m20_263, m20_265, m20_268u, m20_270, m20_272, m20_275, m20_277, m20_278, m20_281, m20_282, m20_285, m20_287, m20_290, m20_292u, m20_294, m20_296, m20_298, m20_301, m20_302, m20_305, m20_306, nb0, nb1, ou_a, Option.toList_some, Option.toList_none, List.nil_append, List.cons_append, getA_set2, setA_len, inB_iff, A0g_0, A0g_1, A0g_2, A0g_3, A0g_4, A0g_5, A0g_6, A0g_7, A0g_8, A0g_9, A0g_10, A0g_11, A0g_12, A0g_13, A0g_14, A0g_15, A0g_16, A0g_17, A0g_18, A0g_19, A0l_0, A0l_1, A0l_2, A0l_3, A0l_4, A0l_5, A0l_6, A0l_7, A0l_8, A0l_9, A0l_10, A0l_11, A0l_12, A0l_13, A0l_14, A0l_15, A0l_16, A0l_17, A0l_18, A0l_19]
      refine ⟨?_, ?_⟩ <;> simp only [ou_a, setA_len, put_len, put_tot, pad_0, tot_nil, List.length_nil, List.length_cons, A0l_0, A0l_1, A0l_2, A0l_3, A0l_4, A0l_5, A0l_6, A0l_7, A0l_8, A0l_9, A0l_10, A0l_11, A0l_12, A0l_13, A0l_14, A0l_15, A0l_16, A0l_17, A0l_18, A0l_19] <;> simp [setA_len, put_len, put_tot, pad_0, tot_nil, List.length_nil, List.length_cons, A0l_0, A0l_1, A0l_2, A0l_3, A0l_4, A0l_5, A0l_6, A0l_7, A0l_8, A0l_9, A0l_10, A0l_11, A0l_12, A0l_13, A0l_14, A0l_15, A0l_16, A0l_17, A0l_18, A0l_19]
    by_cases b7 : i4 < 1
    · simp [a1, b1, b2, b3, b4, b5, b6, b7, m0_0, m0_1, m0_4, m0_5, m0_12, m0_13, m0_20, m0_21, m0_28, m0_29, m0_36, m0_37, m0_44, m0_45, m0_52, m0_53, m0_60, m0_61, m0_68, m0_69, m0_75, m0_76, m0_82, m0_83, m0_89, m0_90, m0_96, m0_97, m0_104, m0_105, m0_112, m0_113, m0_120, m0_121, m0_128, m0_129, m0_136, m0_137, m0_144, m0_145, m0_152, m0_153, m0_160, m0_161u, m0_162, m0_163, m0_164, m0_167, m0_168i, m0_169, m0_170, m0_172, m0_175, m0_177i, m0_178, m0_179, m0_180, m0_183, m0_184, m0_185, m0_188, m0_189, m0_190, m0_193, m0_194, m0_195, m0_198, m0_199, m0_200, m0_203, m0_204u, m0_205, m0_206, m0_207, m0_210, m0_211, m0_214, m0_215, m0_216, m0_217, m0_220, m0_223, m0_224, m0_227, m1_0, m1_1, m1_2, m1_5, m1_6, m1_7, m1_10, m1_11u, m1_12, m1_13, m1_15, m1_18, m1_19, m1_22, m1_23, m1_24, m1_25, m1_26, m1_29, m1_30, m1_31, m1_32, m1_33, m1_36, m1_37, m1_38, m1_39, m1_40, m1_43, m1_44, m1_45, m1_46, m1_47, m1_50, m1_51, m1_52, m1_53, m1_54, m1_57, m1_58, m1_59, m1_60, m1_63, m1_66, m2_0, m2_1, m2_4, m2_5, m2_8, m2_11, m2_12, m2_13, m2_14, m2_15, m2_18, m2_19, m2_22, m2_25, m2_27, m2_28, m2_29, m2_30, m2_33, m2_34, m2_35, m2_38, m2_40, m2_41, m2_42, m2_43, m2_46, m2_47, m2_48, m2_51, m2_53, m2_54, m2_56, m2_57, m2_60, m2_62, m2_64, m2_67, m2_69, m2_70, m2_71, m2_73, m2_76, m2_79, m2_81, m2_82, m2_83, m2_84, m2_87, m2_88, m2_89, m2_92, m2_93, m2_94, m2_97, m2_98, m2_99, m2_102, m2_103, m2_105, m2_108, m2_109u, m2_111, m2_113, m2_114, m2_117, m2_118, m2_121, m2_123, m2_124, m2_125, m2_126, m2_129, m2_131, m2_132, m2_133, m2_136, m2_139, m2_140, m3_0, m3_1, m3_4, m3_7, m3_9, m3_10, m3_11, m3_14u, m3_15, m3_16, m3_18, m3_21, m3_22, m3_23, m3_26, m3_27, m3_28, m3_29, m3_30, m3_33, m3_34, m3_37, m3_40u, m3_41, m3_42, m3_45, m3_48, m3_49, m3_50, m3_53, m3_54, m3_55, m3_58, m3_60, m3_61, m3_62, m3_63, m3_66, m3_67, m3_68, m3_69, m3_70, m3_73u, m3_74, m3_75, m3_78, m3_79, m3_80, m3_83, m3_84, m3_85, m3_88, m3_90, m3_91, m3_92, m3_93, m3_94, m3_95, m3_98, m3_99, m3_100, m3_101, m3_102, m3_105, m3_106, m3_107, m3_110, m3_111, m3_112, m3_115, m3_116, m3_117, m3_120, m3_121, m3_124, m3_125, m4_0, m4_1, m4_4, m5_0, m5_1, m5_2, m5_5, m5_8, m5_9, m5_10, m5_11, m5_14, m5_15, m5_16, m6_0, m6_1, m6_4, m6_5, m6_6, m6_9, m6_12, m6_13, m6_16, m6_17, m7_0, m7_1, m7_2, m7_5, m7_8, m7_9, m7_10, m7_11, m7_14, m7_15, m7_16, m8_0, m8_1, m8_4, m9_0, m9_1, m9_4, m10_0, m10_1u, m10_2, m10_3, m10_4, m10_7, m10_10, m10_11, m10_14, m10_15, m10_16, m10_17, m10_20, m10_21, m10_22, m10_25, m10_28, m10_29, m11_0, m11_1, m11_2, m11_5, m11_6, m11_7, m11_10, m11_13, m11_14, m11_15, m11_16, m11_17, m11_20u, m11_21, m11_22, m11_23, m11_26, m11_29, m11_30, m11_31, m11_32, m11_33, m11_34, m11_35, m12_0, m12_1u, m12_2, m12_3u, m12_5, m12_6u, m12_8, m12_10, m12_12, m12_15, m12_17, m12_20, m12_23, m12_24, m12_26, m12_27u, m12_27i, m12_27r, m12_29, m12_31i, m12_32, m12_34i, m12_36, m12_39, m12_42, m12_43, m13_0, m13_1, m13_4, m13_5, m13_6, m13_9, m13_10, m13_11, m13_14, m13_15, m13_16, m13_19, m13_20, m13_21, m13_24, m13_25, m13_26, m13_29, m13_30, m13_31, m13_34, m13_35, m13_36, m13_39, m13_40, m13_41u, m13_42, m13_43, m13_44, m13_47, m13_48, m13_51, m13_52, m13_53, m13_54, m13_55, m13_56, m13_57, m13_60, m13_61, m13_62, m13_63, m13_64, m13_67, m13_68, m13_69, m13_70, m13_71, m13_72, m13_73, m13_76, m13_77, m13_78, m13_79, m13_82, m13_85, m14_0, m14_1, m14_2, m14_5, m14_6u, m14_7, m14_8, m14_9, m14_12, m14_13, m14_14, m14_15, m14_18u, m14_18i, m14_18r, m14_19, m14_20, m14_23, m14_24, m14_25, m14_26, m14_27, m14_28, m14_29, m14_30, m14_33u, m14_33i, m14_33r, m14_35, m14_37, m14_40, m14_41, m14_42, m14_43, m14_46, m14_47, m14_49, m14_50, m14_53, m14_56, m14_57, m15_0, m15_1u, m15_2, m15_3, m15_4, m15_7, m15_8u, m15_8i, m15_8r, m15_9, m15_10u, m15_10i, m15_10r, m15_12, m15_14, m15_15, m15_18, m15_19, m15_22, m15_24, m15_25, m15_26, m15_27, m15_28, m15_29, m15_32, m15_33, m15_36, m15_38, m15_39, m15_40, m15_43, m15_44, m15_47, m15_49, m15_50i, m15_51, m15_54, m15_57, m15_58, m15_61, m15_62, m15_63, m15_64, m15_67, m15_70, m16_0, m16_1u, m16_2, m16_3, m16_6, m16_7, m16_8u, m16_10, m16_11u, m16_13, m16_15, m16_16, m16_19, m16_20, m16_23, m16_25, m16_26, m16_28, m16_31, m16_34, m16_35u, m16_35i, m16_35r, m16_37, m16_39, m16_40, m16_43, m16_44, m16_47, m16_49, m16_50, m16_51, m16_53, m16_54, m16_55u, m16_55i, m16_55r, m16_57, m16_59, m16_62, m16_63, m16_66, m16_68, m16_69, m16_71, m16_74, m16_76, m16_77, m16_80, m16_82i, m16_83, m16_86, m16_89, m16_92, m16_95, m16_96, m17_0, m17_1, m17_4, m17_5, m17_6, m17_7, m17_8u, m17_10, m17_12u, m17_14, m17_15u, m17_17, m17_19, m17_22, m17_25, m17_27, m17_28, m17_31, m17_32, m17_33, m17_36, m17_37, m17_38, m17_40, m17_41, m17_42, m17_43, m17_45, m17_48, m17_49u, m17_49i, m17_49r, m17_51, m17_53, m17_55, m17_58, m17_60, m17_61, m17_63i, m17_65, m17_68, m17_71, m17_72, m18_0, m18_1u, m18_3, m18_4, m18_7, m18_8, m18_9u, m18_11, m18_12u, m18_14, m18_16, m18_17, m18_20, m18_21, m18_24, m18_26, m18_27u, m18_27i, m18_27r, m18_29, m18_30, m18_33, m18_35, m18_36, m18_38, m18_41, m18_43, m18_46, m18_48, m18_49, m18_51, m18_52, m18_53, m18_54, m18_56, m18_57, m18_58, m18_61, m18_63, m18_64, m18_65, m18_66i, m18_68, m18_71, m18_74, m18_76, m19_0, m19_1u, m19_2, m19_3, m19_4, m19_7, m19_8, m19_11, m19_12, m19_13, m19_16, m19_17, m19_18, m19_19, m19_20, m19_23, m19_24, m19_25, m19_28, m19_29, m19_30, m19_31, m19_34, m19_37, m19_38i, m19_39, m19_40, m19_41, m19_44, m19_45, m19_48, m19_49, m19_50, m19_53, m19_54, m19_55, m19_56, m19_59, m19_62, m20_0, m20_3, m20_4, m20_5, m20_8u, m20_10, m20_11, m20_12, m20_15, m20_16, m20_19, m20_20, m20_22, m20_25, m20_27, m20_30, m20_31u, m20_33, m20_34, m20_35, m20_38, m20_39, m20_42, m20_45, m20_46, m20_47, m20_50, m20_51, m20_52, m20_55, m20_56, m20_57, m20_60, m20_61, m20_62, m20_65, m20_67u, m20_69, m20_72, m20_74, m20_75, m20_78, m20_80, m20_82, m20_85, m20_87u, m20_89, m20_92, m20_93u, m20_95, m20_97, m20_98, m20_99, m20_100, m20_102, m20_105u, m20_107, m20_109, m20_111, m20_114, m20_115, m20_116, m20_118, m20_121, m20_122, m20_125, m20_126u, m20_128, m20_130, m20_133u, m20_135, m20_137, m20_139, m20_142, m20_143, m20_146, m20_148, m20_151, m20_152, m20_153, m20_155, m20_158, m20_160, m20_163, m20_164, m20_167, m20_168, m20_171, m20_172, m20_173, m20_175, m20_176, m20_179, m20_181, m20_184, m20_185, m20_188, m20_189, m20_192, m20_193, m20_194, m20_196, m20_197, m20_200, m20_202, m20_205, m20_206, m20_209, m20_210, m20_213, m20_214, m20_215, m20_217, m20_220, m20_222, m20_225, m20_226, m20_229, m20_230, m20_233, m20_234, m20_235, m20_237, m20_240, m20_241, m20_244, m20_245, m20_246, m20_248, m20_251, m20_253, m20_256, m20_257, m20_258, m20_260, m20_261, m20_262, m20_263, m20_265, m20_268u, m20_270, m20_272, m20_275, m20_277, m20_278, m20_281, m20_282, m20_285, m20_287, m20_290, m20_292u, m20_294, m20_296, m20_298, m20_301, m20_302, m20_305, m20_306, nb0, nb1, ou_a, Option.toList_some, Option.toList_none, List.nil_append, List.cons_append, getA_set2, setA_len, inB_iff, A0g_0, A0g_1, A0g_2, A0g_3, A0g_4, A0g_5, A0g_6, A0g_7, A0g_8, A0g_9, A0g_10, A0g_11, A0g_12, A0g_13, A0g_14, A0g_15, A0g_16, A0g_17, A0g_18, A0g_19, A0l_0, A0l_1, A0l_2, A0l_3, A0l_4, A0l_5, A0l_6, A0l_7, A0l_8, A0l_9, A0l_10, A0l_11, A0l_12, A0l_13, A0l_14, A0l_15, A0l_16, A0l_17, A0l_18, A0l_19]
      refine ⟨?_, ?_⟩ <;> simp only [ou_a, setA_len, put_len, put_tot, pad_0, tot_nil, List.length_nil, List.length_cons, A0l_0, A0l_1, A0l_2, A0l_3, A0l_4, A0l_5, A0l_6, A0l_7, A0l_8, A0l_9, A0l_10, A0l_11, A0l_12, A0l_13, A0l_14, A0l_15, A0l_16, A0l_17, A0l_18, A0l_19] <;> simp [setA_len, put_len, put_tot, pad_0, tot_nil, List.length_nil, List.length_cons, A0l_0, A0l_1, A0l_2, A0l_3, A0l_4, A0l_5, A0l_6, A0l_7, A0l_8, A0l_9, A0l_10, A0l_11, A0l_12, A0l_13, A0l_14, A0l_15, A0l_16, A0l_17, A0l_18, A0l_19]
    by_cases b8 : 63 < i4
    · simp [a1, b1, b2, b3, b4, b5, b6, b7, b8, m0_0, m0_1, m0_4, m0_5, m0_12, m0_13, m0_20, m0_21, m0_28, m0_29, m0_36, m0_37, m0_44, m0_45, m0_52, m0_53, m0_60, m0_61, m0_68, m0_69, m0_75, m0_76, m0_82, m0_83, m0_89, m0_90, m0_96, m0_97, m0_104, m0_105, m0_112, m0_113, m0_120, m0_121, m0_128, m0_129, m0_136, m0_137, m0_144, m0_145, m0_152, m0_153, m0_160, m0_161u, m0_162, m0_163, m0_164, m0_167, m0_168i, m0_169, m0_170, m0_172, m0_175, m0_177i, m0_178, m0_179, m0_180, m0_183, m0_184, m0_185, m0_188, m0_189, m0_190, m0_193, m0_194, m0_195, m0_198, m0_199, m0_200, m0_203, m0_204u, m0_205, m0_206, m0_207, m0_210, m0_211, m0_214, m0_215, m0_216, m0_217, m0_220, m0_223, m0_224, m0_227, m1_0, m1_1, m1_2, m1_5, m1_6, m1_7, m1_10, m1_11u, m1_12, m1_13, m1_15, m1_18, m1_19, m1_22, m1_23, m1_24, m1_25, m1_26, m1_29, m1_30, m1_31, m1_32, m1_33, m1_36, m1_37, m1_38, m1_39, m1_40, m1_43, m1_44, m1_45, m1_46, m1_47, m1_50, m1_51, m1_52, m1_53, m1_54, m1_57, m1_58, m1_59, m1_60, m1_63, m1_66, m2_0, m2_1, m2_4, m2_5, m2_8, m2_11, m2_12, m2_13, m2_14, m2_15, m2_18, m2_19, m2_22, m2_25, m2_27, m2_28, m2_29, m2_30, m2_33, m2_34, m2_35, m2_38, m2_40, m2_41, m2_42, m2_43, m2_46, m2_47, m2_48, m2_51, m2_53, m2_54, m2_56, m2_57, m2_60, m2_62, m2_64, m2_67, m2_69, m2_70, m2_71, m2_73, m2_76, m2_79, m2_81, m2_82, m2_83, m2_84, m2_87, m2_88, m2_89, m2_92, m2_93, m2_94, m2_97, m2_98, m2_99, m2_102, m2_103, m2_105, m2_108, m2_109u, m2_111, m2_113, m2_114, m2_117, m2_118, m2_121, m2_123, m2_124, m2_125, m2_126, m2_129, m2_131, m2_132, m2_133, m2_136, m2_139, m2_140, m3_0, m3_1, m3_4, m3_7, m3_9, m3_10, m3_11, m3_14u, m3_15, m3_16, m3_18, m3_21, m3_22, m3_23, m3_26, m3_27, m3_28, m3_29, m3_30, m3_33, m3_34, m3_37, m3_40u, m3_41, m3_42, m3_45, m3_48, m3_49, m3_50, m3_53, m3_54, m3_55, m3_58, m3_60, m3_61, m3_62, m3_63, m3_66, m3_67, m3_68, m3_69, m3_70, m3_73u, m3_74, m3_75, m3_78, m3_79, m3_80, m3_83, m3_84, m3_85, m3_88, m3_90, m3_91, m3_92, m3_93, m3_94, m3_95, m3_98, m3_99, m3_100, m3_101, m3_102, m3_105, m3_106, m3_107, m3_110, m3_111, m3_112, m3_115, m3_116, m3_117, m3_120, m3_121, m3_124, m3_125, m4_0, m4_1, m4_4, m5_0, m5_1, m5_2, m5_5, m5_8, m5_9, m5_10, m5_11, m5_14, m5_15, m5_16, m6_0, m6_1, m6_4, m6_5, m6_6, m6_9, m6_12, m6_13, m6_16, m6_17, m7_0, m7_1, m7_2, m7_5, m7_8, m7_9, m7_10, m7_11, m7_14, m7_15, m7_16, m8_0, m8_1, m8_4, m9_0, m9_1, m9_4, m10_0, m10_1u, m10_2, m10_3, m10_4, m10_7, m10_10, m10_11, m10_14, m10_15, m10_16, m10_17, m10_20, m10_21, m10_22, m10_25, m10_28, m10_29, m11_0, m11_1, m11_2, m11_5, m11_6, m11_7, m11_10, m11_13, m11_14, m11_15, m11_16, m11_17, m11_20u, m11_21, m11_22, m11_23, m11_26, m11_29, m11_30, m11_31, m11_32, m11_33, m11_34, m11_35, m12_0, m12_1u, m12_2, m12_3u, m12_5, m12_6u, m12_8, m12_10, m12_12, m12_15, m12_17, m12_20, m12_23, m12_24, m12_26, m12_27u, m12_27i, m12_27r, m12_29, m12_31i, m12_32, m12_34i, m12_36, m12_39, m12_42, m12_43, m13_0, m13_1, m13_4, m13_5, m13_6, m13_9, m13_10, m13_11, m13_14, m13_15, m13_16, m13_19, m13_20, m13_21, m13_24, m13_25, m13_26, m13_29, m13_30, m13_31, m13_34, m13_35, m13_36, m13_39, m13_40, m13_41u, m13_42, m13_43, m13_44, m13_47, m13_48, m13_51, m13_52, m13_53, m13_54, m13_55, m13_56, m13_57, m13_60, m13_61, m13_62, m13_63, m13_64, m13_67, m13_68, m13_69, m13_70, m13_71, m13_72, m13_73, m13_76, m13_77, m13_78, m13_79, m13_82, m13_85, m14_0, m14_1, m14_2, m14_5, m14_6u, m14_7, m14_8, m14_9, m14_12, m14_13, m14_14, m14_15, m14_18u, m14_18i, m14_18r, m14_19, m14_20, m14_23, m14_24, m14_25, m14_26, m14_27, m14_28, m14_29, m14_30, m14_33u, m14_33i, m14_33r, m14_35, m14_37, m14_40, m14_41, m14_42, m14_43, m14_46, m14_47, m14_49, m14_50, m14_53, m14_56, m14_57, m15_0, m15_1u, m15_2, m15_3, m15_4, m15_7, m15_8u, m15_8i, m15_8r, m15_9, m15_10u, m15_10i, m15_10r, m15_12, m15_14, m15_15, m15_18, m15_19, m15_22, m15_24, m15_25, m15_26, m15_27, m15_28, m15_29, m15_32, m15_33, m15_36, m15_38, m15_39, m15_40, m15_43, m15_44, m15_47, m15_49, m15_50i, m15_51, m15_54, m15_57, m15_58, m15_61, m15_62, m15_63, m15_64, m15_67, m15_70, m16_0, m16_1u, m16_2, m16_3, m16_6, m16_7, m16_8u, m16_10, m16_11u, m16_13, m16_15, m16_16, m16_19, m16_20, m16_23, m16_25, m16_26, m16_28, m16_31, m16_34, m16_35u, m16_35i, m16_35r, m16_37, m16_39, m16_40, m16_43, m16_44, m16_47, m16_49, m16_50, m16_51, m16_53, m16_54, m16_55u, m16_55i, m16_55r, m16_57, m16_59, m16_62, m16_63, m16_66, m16_68, m16_69, m16_71, m16_74, m16_76, m16_77, m16_80, m16_82i, m16_83, m16_86, m16_89, m16_92, m16_95, m16_96, m17_0, m17_1, m17_4, m17_5, m17_6, m17_7, m17_8u, m17_10, m17_12u, m17_14, m17_15u, m17_17, m17_19, m17_22, m17_25, m17_27, m17_28, m17_31, m17_32, m17_33, m17_36, m17_37, m17_38, m17_40, m17_41, m17_42, m17_43, m17_45, m17_48, m17_49u, m17_49i, m17_49r, m17_51, m17_53, m17_55, m17_58, m17_60, m17_61, m17_63i, m17_65, m17_68, m17_71, m17_72, m18_0, m18_1u, m18_3, m18_4, m18_7, m18_8, m18_9u, m18_11, m18_12u, m18_14, m18_16, m18_17, m18_20, m18_21, m18_24, m18_26, m18_27u, m18_27i, m18_27r, m18_29, m18_30, m18_33, m18_35, m18_36, m18_38, m18_41, m18_43, m18_46, m18_48, m18_49, m18_51, m18_52, m18_53, m18_54, m18_56, m18_57, m18_58, m18_61, m18_63, m18_64, m18_65, m18_66i, m18_68, m18_71, m18_74, m18_76, m19_0, m19_1u, m19_2, m19_3, m19_4, m19_7, m19_8, m19_11, m19_12, m19_13, m19_16, m19_17, m19_18, m19_19, m19_20, m19_23, m19_24, m19_25, m19_28, m19_29, m19_30, m19_31, m19_34, m19_37, m19_38i, m19_39, m19_40, m19_41, m19_44, m19_45, m19_48, m19_49, m19_50, m19_53, m19_54, m19_55, m19_56, m19_59, m19_62, m20_0, m20_3, m20_4, m20_5, m20_8u, m20_10, m20_11, m20_12, m20_15, m20_16, m20_19, m20_20, m20_22, m20_25, m20_27, m20_30, m20_31u, m20_33, m20_34, m20_35, m20_38, m20_39, m20_42, m20_45, m20_46, m20_47, m20_50, m20_51, m20_52, m20_55, m20_56, m20_57, m20_60, m20_61, m20_62, m20_65, m20_67u, m20_69, m20_72, m20_74, m20_75, m20_78, m20_80, m20_82, m20_85, m20_87u, m20_89, m20_92, m20_93u, m20_95, m20_97, m20_98, m20_99, m20_100, m20_102, m20_105u, m20_107, m20_109, m20_111, m20_114, m20_115, m20_116, m20_118, m20_121, m20_122, m20_125, m20_126u, m20_128, m20_130, m20_133u, m20_135, m20_137, m20_139, m20_142, m20_143, m20_146, m20_148, m20_151, m20_152, m20_153, m20_155, m20_158, m20_160, m20_163, m20_164, m20_167, m20_168, m20_171, m20_172, m20_173, m20_175, m20_176, m20_179, m20_181, m20_184, m20_185, m20_188, m20_189, m20_192, m20_193, m20_194, m20_196, m20_197, m20_200, m20_202, m20_205, m20_206, m20_209, m20_210, m20_213, m20_214, m20_215, m20_217, m20_220, m20_222, m20_225, m20_226, m20_229, m20_230, m20_233, m20_234, m20_235, m20_237, m20_240, m20_241, m20_244, m20_245, m20_246, m20_248, m20_251, m20_253, m20_256, m20_257, m20_258, m20_260, m20_261, m20_262, m20_263, m20_265, m20_268u, m20_270, m20_272, m20_275, m20_277, m20_278, m20_281, m20_282, m20_285, m20_287, m20_290, m20_292u, m20_294, m20_296, m20_298, m20_301, m20_302, m20_305, m20_306, nb0, nb1, ou_a, Option.toList_some, Option.toList_none, List.nil_append, List.cons_append, getA_set2, setA_len, inB_iff, A0g_0, A0g_1, A0g_2, A0g_3, A0g_4, A0g_5, A0g_6, A0g_7, A0g_8, A0g_9, A0g_10, A0g_11, A0g_12, A0g_13, A0g_14, A0g_15, A0g_16, A0g_17, A0g_18, A0g_19, A0l_0, A0l_1, A0l_2, A0l_3, A0l_4, A0l_5, A0l_6, A0l_7, A0l_8, A0l_9, A0l_10, A0l_11, A0l_12, A0l_13, A0l_14, A0l_15, A0l_16, A0l_17, A0l_18, A0l_19]
      refine ⟨?_, ?_⟩ <;> simp only [ou_a, setA_len, put_len, put_tot, pad_0, tot_nil, List.length_nil, List.length_cons, A0l_0, A0l_1, A0l_2, A0l_3, A0l_4, A0l_5, A0l_6, A0l_7, A0l_8, A0l_9, A0l_10, A0l_11, A0l_12, A0l_13, A0l_14, A0l_15, A0l_16, A0l_17, A0l_18, A0l_19] <;> simp [setA_len, put_len, put_tot, pad_0, tot_nil, List.length_nil, List.length_cons, A0l_0, A0l_1, A0l_2, A0l_3, A0l_4, A0l_5, A0l_6, A0l_7, A0l_8, A0l_9, A0l_10, A0l_11, A0l_12, A0l_13, A0l_14, A0l_15, A0l_16, A0l_17, A0l_18, A0l_19]
    have n3 := own_nn b5
    by_cases d : i1 = 1
    · subst d
      simp [a1, b1, b2, b3, b4, b5, b6, b7, b8, n3, own_irr, own_mod1, m0_0, m0_1, m0_4, m0_5, m0_12, m0_13, m0_20, m0_21, m0_28, m0_29, m0_36, m0_37, m0_44, m0_45, m0_52, m0_53, m0_60, m0_61, m0_68, m0_69, m0_75, m0_76, m0_82, m0_83, m0_89, m0_90, m0_96, m0_97, m0_104, m0_105, m0_112, m0_113, m0_120, m0_121, m0_128, m0_129, m0_136, m0_137, m0_144, m0_145, m0_152, m0_153, m0_160, m0_161u, m0_162, m0_163, m0_164, m0_167, m0_168i, m0_169, m0_170, m0_172, m0_175, m0_177i, m0_178, m0_179, m0_180, m0_183, m0_184, m0_185, m0_188, m0_189, m0_190, m0_193, m0_194, m0_195, m0_198, m0_199, m0_200, m0_203, m0_204u, m0_205, m0_206, m0_207, m0_210, m0_211, m0_214, m0_215, m0_216, m0_217, m0_220, m0_223, m0_224, m0_227, m1_0, m1_1, m1_2, m1_5, m1_6, m1_7, m1_10, m1_11u, m1_12, m1_13, m1_15, m1_18, m1_19, m1_22, m1_23, m1_24, m1_25, m1_26, m1_29, m1_30, m1_31, m1_32, m1_33, m1_36, m1_37, m1_38, m1_39, m1_40, m1_43, m1_44, m1_45, m1_46, m1_47, m1_50, m1_51, m1_52, m1_53, m1_54, m1_57, m1_58, m1_59, m1_60, m1_63, m1_66, m2_0, m2_1, m2_4, m2_5, m2_8, m2_11, m2_12, m2_13, m2_14, m2_15, m2_18, m2_19, m2_22, m2_25, m2_27, m2_28, m2_29, m2_30, m2_33, m2_34, m2_35, m2_38, m2_40, m2_41, m2_42, m2_43, m2_46, m2_47, m2_48, m2_51, m2_53, m2_54, m2_56, m2_57, m2_60, m2_62, m2_64, m2_67, m2_69, m2_70, m2_71, m2_73, m2_76, m2_79, m2_81, m2_82, m2_83, m2_84, m2_87, m2_88, m2_89, m2_92, m2_93, m2_94, m2_97, m2_98, m2_99, m2_102, m2_103, m2_105, m2_108, m2_109u, m2_111, m2_113, m2_114, m2_117, m2_118, m2_121, m2_123, m2_124, m2_125, m2_126, m2_129, m2_131, m2_132, m2_133, m2_136, m2_139, m2_140, m3_0, m3_1, m3_4, m3_7, m3_9, m3_10, m3_11, m3_14u, m3_15, m3_16, m3_18, m3_21, m3_22, m3_23, m3_26, m3_27, m3_28, m3_29, m3_30, m3_33, m3_34, m3_37, m3_40u, m3_41, m3_42, m3_45, m3_48, m3_49, m3_50, m3_53, m3_54, m3_55, m3_58, m3_60, m3_61, m3_62, m3_63, m3_66, m3_67, m3_68, m3_69, m3_70, m3_73u, m3_74, m3_75, m3_78, m3_79, m3_80, m3_83, m3_84, m3_85, m3_88, m3_90, m3_91, m3_92, m3_93, m3_94, m3_95, m3_98, m3_99, m3_100, m3_101, m3_102, m3_105, m3_106, m3_107, m3_110, m3_111, m3_112, m3_115, m3_116, m3_117, m3_120, m3_121, m3_124, m3_125, m4_0, m4_1, m4_4, m5_0, m5_1, m5_2, m5_5, m5_8, m5_9, m5_10, m5_11, m5_14, m5_15, m5_16, m6_0, m6_1, m6_4, m6_5, m6_6, m6_9, m6_12, m6_13, m6_16, m6_17, m7_0, m7_1, m7_2, m7_5, m7_8, m7_9, m7_10, m7_11, m7_14, m7_15, m7_16, m8_0, m8_1, m8_4, m9_0, m9_1, m9_4, m10_0, m10_1u, m10_2, m10_3, m10_4, m10_7, m10_10, m10_11, m10_14, m10_15, m10_16, m10_17, m10_20, m10_21, m10_22, m10_25, m10_28, m10_29, m11_0, m11_1, m11_2, m11_5, m11_6, m11_7, m11_10, m11_13, m11_14, m11_15, m11_16, m11_17, m11_20u, m11_21, m11_22, m11_23, m11_26, m11_29, m11_30, m11_31, m11_32, m11_33, m11_34, m11_35, m12_0, m12_1u, m12_2, m12_3u, m12_5, m12_6u, m12_8, m12_10, m12_12, m12_15, m12_17, m12_20, m12_23, m12_24, m12_26, m12_27u, m12_27i, m12_27r, m12_29, m12_31i, m12_32, m12_34i, m12_36, m12_39, m12_42, m12_43, m13_0, m13_1, m13_4, m13_5, m13_6, m13_9, m13_10, m13_11, m13_14, m13_15, m13_16, m13_19, m13_20, m13_21, m13_24, m13_25, m13_26, m13_29, m13_30, m13_31, m13_34, m13_35, m13_36, m13_39, m13_40, m13_41u, m13_42, m13_43, m13_44, m13_47, m13_48, m13_51, m13_52, m13_53, m13_54, m13_55, m13_56, m13_57, m13_60, m13_61, m13_62, m13_63, m13_64, m13_67, m13_68, m13_69, m13_70, m13_71, m13_72, m13_73, m13_76, m13_77, m13_78, m13_79, m13_82, m13_85, m14_0, m14_1, m14_2, m14_5, m14_6u, m14_7, m14_8, m14_9, m14_12, m14_13, m14_14, m14_15, m14_18u, m14_18i, m14_18r, m14_19, m14_20, m14_23, m14_24, m14_25, m14_26, m14_27, m14_28, m14_29, m14_30, m14_33u, m14_33i, m14_33r, m14_35, m14_37, m14_40, m14_41, m14_42, m14_43, m14_46, m14_47, m14_49, m14_50, m14_53, m14_56, m14_57, m15_0, m15_1u, m15_2, m15_3, m15_4, m15_7, m15_8u, m15_8i, m15_8r, m15_9, m15_10u, m15_10i, m15_10r, m15_12, m15_14, m15_15, m15_18, m15_19, m15_22, m15_24, m15_25, m15_26, m15_27, m15_28, m15_29, m15_32, m15_33, m15_36, m15_38, m15_39, m15_40, m15_43, m15_44, m15_47, m15_49, m15_50i, m15_51, m15_54, m15_57, m15_58, m15_61, m15_62, m15_63, m15_64, m15_67, m15_70, m16_0, m16_1u, m16_2, m16_3, m16_6, m16_7, m16_8u, m16_10, m16_11u, m16_13, m16_15, m16_16, m16_19, m16_20, m16_23, m16_25, m16_26, m16_28, m16_31, m16_34, m16_35u, m16_35i, m16_35r, m16_37, m16_39, m16_40, m16_43, m16_44, m16_47, m16_49, m16_50, m16_51, m16_53, m16_54, m16_55u, m16_55i, m16_55r, m16_57, m16_59, m16_62, m16_63, m16_66, m16_68, m16_69, m16_71, m16_74, m16_76, m16_77, m16_80, m16_82i, m16_83, m16_86, m16_89, m16_92, m16_95, m16_96, m17_0, m17_1, m17_4, m17_5, m17_6, m17_7, m17_8u, m17_10, m17_12u, m17_14, m17_15u, m17_17, m17_19, m17_22, m17_25, m17_27, m17_28, m17_31, m17_32, m17_33, m17_36, m17_37, m17_38, m17_40, m17_41, m17_42, m17_43, m17_45, m17_48, m17_49u, m17_49i, m17_49r, m17_51, m17_53, m17_55, m17_58, m17_60, m17_61, m17_63i, m17_65, m17_68, m17_71, m17_72, m18_0, m18_1u, m18_3, m18_4, m18_7, m18_8, m18_9u, m18_11, m18_12u, m18_14, m18_16, m18_17, m18_20, m18_21, m18_24, m18_26, m18_27u, m18_27i, m18_27r, m18_29, m18_30, m18_33, m18_35, m18_36, m18_38, m18_41, m18_43, m18_46, m18_48, m18_49, m18_51, m18_52, m18_53, m18_54, m18_56, m18_57, m18_58, m18_61, m18_63, m18_64, m18_65, m18_66i, m18_68, m18_71, m18_74, m18_76, m19_0, m19_1u, m19_2, m19_3, m19_4, m19_7, m19_8, m19_11, m19_12, m19_13, m19_16, m19_17, m19_18, m19_19, m19_20, m19_23, m19_24, m19_25, m19_28, m19_29, m19_30, m19_31, m19_34, m19_37, m19_38i, m19_39, m19_40, m19_41, m19_44, m19_45, m19_48, m19_49, m19_50, m19_53, m19_54, m19_55, m19_56, m19_59, m19_62, m20_0, m20_3, m20_4, m20_5, m20_8u, m20_10, m20_11, m20_12, m20_15, m20_16, m20_19, m20_20, m20_22, m20_25, m20_27, m20_30, m20_31u, m20_33, m20_34, m20_35, m20_38, m20_39, m20_42, m20_45, m20_46, m20_47, m20_50, m20_51, m20_52, m20_55, m20_56, m20_57, m20_60, m20_61, m20_62, m20_65, m20_67u, m20_69, m20_72, m20_74, m20_75, m20_78, m20_80, m20_82, m20_85, m20_87u, m20_89, m20_92, m20_93u, m20_95, m20_97, m20_98, m20_99, m20_100, m20_102, m20_105u, m20_107, m20_109, m20_111, m20_114, m20_115, m20_116, m20_118, m20_121, m20_122, m20_125, m20_126u, m20_128, m20_130, m20_133u, m20_135, m20_137, m20_139, m20_142, m20_143, m20_146, m20_148, m20_151, m20_152, m20_153, m20_155, m20_158, m20_160, m20_163, m20_164, m20_167, m20_168, m20_171, m20_172, m20_173, m20_175, m20_176, m20_179, m20_181, m20_184, m20_185, m20_188, m20_189, m20_192, m20_193, m20_194, m20_196, m20_197, m20_200, m20_202, m20_205, m20_206, m20_209, m20_210, m20_213, m20_214, m20_215, m20_217, m20_220, m20_222, m20_225, m20_226, m20_229, m20_230, m20_233, m20_234, m20_235, m20_237, m20_240, m20_241, m20_244, m20_245, m20_246, m20_248, m20_251, m20_253, m20_256, m20_257, m20_258, m20_260, m20_261, m20_262, m20_263, m20_265, m20_268u, m20_270, m20_272, m20_275, m20_277, m20_278, m20_281, m20_282, m20_285, m20_287, m20_290, m20_292u, m20_294, m20_296, m20_298, m20_301, m20_302, m20_305, m20_306, nb0, nb1, ou_a, Option.toList_some, Option.toList_none, List.nil_append, List.cons_append, getA_set2, setA_len, inB_iff, A0g_0, A0g_1, A0g_2, A0g_3, A0g_4, A0g_5, A0g_6, A0g_7, A0g_8, A0g_9, A0g_10, A0g_11, A0g_12, A0g_13, A0g_14, A0g_15, A0g_16, A0g_17, A0g_18, A0g_19, A0l_0, A0l_1, A0l_2, A0l_3, A0l_4, A0l_5, A0l_6, A0l_7, A0l_8, A0l_9, A0l_10, A0l_11, A0l_12, A0l_13, A0l_14, A0l_15, A0l_16, A0l_17, A0l_18, A0l_19]
      refine ⟨?_, ?_⟩ <;> simp only [ou_a, setA_len, put_len, put_tot, pad_0, tot_nil, List.length_nil, List.length_cons, A0l_0, A0l_1, A0l_2, A0l_3, A0l_4, A0l_5, A0l_6, A0l_7, A0l_8, A0l_9, A0l_10, A0l_11, A0l_12, A0l_13, A0l_14, A0l_15, A0l_16, A0l_17, A0l_18, A0l_19] <;> simp [setA_len, put_len, put_tot, pad_0, tot_nil, List.length_nil, List.length_cons, A0l_0, A0l_1, A0l_2, A0l_3, A0l_4, A0l_5, A0l_6, A0l_7, A0l_8, A0l_9, A0l_10, A0l_11, A0l_12, A0l_13, A0l_14, A0l_15, A0l_16, A0l_17, A0l_18, A0l_19]
    have d0 := own_ne0 b1
    have d1 := own_1mod (own_gt1 b1 d)
    simp [a1, b1, b2, b3, b4, b5, b6, b7, b8, n3, d, d0, d1, own_irr, own_mod1, m0_0, m0_1, m0_4, m0_5, m0_12, m0_13, m0_20, m0_21, m0_28, m0_29, m0_36, m0_37, m0_44, m0_45, m0_52, m0_53, m0_60, m0_61, m0_68, m0_69, m0_75, m0_76, m0_82, m0_83, m0_89, m0_90, m0_96, m0_97, m0_104, m0_105, m0_112, m0_113, m0_120, m0_121, m0_128, m0_129, m0_136, m0_137, m0_144, m0_145, m0_152, m0_153, m0_160, m0_161u, m0_162, m0_163, m0_164, m0_167, m0_168i, m0_169, m0_170, m0_172, m0_175, m0_177i, m0_178, m0_179, m0_180, m0_183, m0_184, m0_185, m0_188, m0_189, m0_190, m0_193, m0_194, m0_195, m0_198, m0_199, m0_200, m0_203, m0_204u, m0_205, m0_206, m0_207, m0_210, m0_211, m0_214, m0_215, m0_216, m0_217, m0_220, m0_223, m0_224, m0_227, m1_0, m1_1, m1_2, m1_5, m1_6, m1_7, m1_10, m1_11u, m1_12, m1_13, m1_15, m1_18, m1_19, m1_22, m1_23, m1_24, m1_25, m1_26, m1_29, m1_30, m1_31, m1_32, m1_33, m1_36, m1_37, m1_38, m1_39, m1_40, m1_43, m1_44, m1_45, m1_46, m1_47, m1_50, m1_51, m1_52, m1_53, m1_54, m1_57, m1_58, m1_59, m1_60, m1_63, m1_66, m2_0, m2_1, m2_4, m2_5, m2_8, m2_11, m2_12, m2_13, m2_14, m2_15, m2_18, m2_19, m2_22, m2_25, m2_27, m2_28, m2_29, m2_30, m2_33, m2_34, m2_35, m2_38, m2_40, m2_41, m2_42, m2_43, m2_46, m2_47, m2_48, m2_51, m2_53, m2_54, m2_56, m2_57, m2_60, m2_62, m2_64, m2_67, m2_69, m2_70, m2_71, m2_73, m2_76, m2_79, m2_81, m2_82, m2_83, m2_84, m2_87, m2_88, m2_89, m2_92, m2_93, m2_94, m2_97, m2_98, m2_99, m2_102, m2_103, m2_105, m2_108, m2_109u, m2_111, m2_113, m2_114, m2_117, m2_118, m2_121, m2_123, m2_124, m2_125, m2_126, m2_129, m2_131, m2_132, m2_133, m2_136, m2_139, m2_140, m3_0, m3_1, m3_4, m3_7, m3_9, m3_10, m3_11, m3_14u, m3_15, m3_16, m3_18, m3_21, m3_22, m3_23, m3_26, m3_27, m3_28, m3_29, m3_30, m3_33, m3_34, m3_37, m3_40u, m3_41, m3_42, m3_45, m3_48, m3_49, m3_50, m3_53, m3_54, m3_55, m3_58, m3_60, m3_61, m3_62, m3_63, m3_66, m3_67, m3_68, m3_69, m3_70, m3_73u, m3_74, m3_75, m3_78, m3_79, m3_80, m3_83, m3_84, m3_85, m3_88, m3_90, m3_91, m3_92, m3_93, m3_94, m3_95, m3_98, m3_99, m3_100, m3_101, m3_102, m3_105, m3_106, m3_107, m3_110, m3_111, m3_112, m3_115, m3_116, m3_117, m3_120, m3_121, m3_124, m3_125, m4_0, m4_1, m4_4, m5_0, m5_1, m5_2, m5_5, m5_8, m5_9, m5_10, m5_11, m5_14, m5_15, m5_16, m6_0, m6_1, m6_4, m6_5, m6_6, m6_9, m6_12, m6_13, m6_16, m6_17, m7_0, m7_1, m7_2, m7_5, m7_8, m7_9, m7_10, m7_11, m7_14, m7_15, m7_16, m8_0, m8_1, m8_4, m9_0, m9_1, m9_4, m10_0, m10_1u, m10_2, m10_3, m10_4, m10_7, m10_10, m10_11, m10_14, m10_15, m10_16, m10_17, m10_20, m10_21, m10_22, m10_25, m10_28, m10_29, m11_0, m11_1, m11_2, m11_5, m11_6, m11_7, m11_10, m11_13, m11_14, m11_15, m11_16, m11_17, m11_20u, m11_21, m11_22, m11_23, m11_26, m11_29, m11_30, m11_31, m11_32, m11_33, m11_34, m11_35, m12_0, m12_1u, m12_2, m12_3u, m12_5, m12_6u, m12_8, m12_10, m12_12, m12_15, m12_17, m12_20, m12_23, m12_24, m12_26, m12_27u, m12_27i, m12_27r, m12_29, m12_31i, m12_32, m12_34i, m12_36, m12_39, m12_42, m12_43, m13_0, m13_1, m13_4, m13_5, m13_6, m13_9, m13_10, m13_11, m13_14, m13_15, m13_16, m13_19, m13_20, m13_21, m13_24, m13_25, m13_26, m13_29, m13_30, m13_31, m13_34, m13_35, m13_36, m13_39, m13_40, m13_41u, m13_42, m13_43, m13_44, m13_47, m13_48, m13_51, m13_52, m13_53, m13_54, m13_55, m13_56, m13_57, m13_60, m13_61, m13_62, m13_63, m13_64, m13_67, m13_68, m13_69, m13_70, m13_71, m13_72, m13_73, m13_76, m13_77, m13_78, m13_79, m13_82, m13_85, m14_0, m14_1, m14_2, m14_5, m14_6u, m14_7, m14_8, m14_9, m14_12, m14_13, m14_14, m14_15, m14_18u, m14_18i, m14_18r, m14_19, m14_20, m14_23, m14_24, m14_25, m14_26, m14_27, m14_28, m14_29, m14_30, m14_33u, m14_33i, m14_33r, m14_35, m14_37, m14_40, m14_41, m14_42, m14_43, m14_46, m14_47, m14_49, m14_50, m14_53, m14_56, m14_57, m15_0, m15_1u, m15_2, m15_3, m15_4, m15_7, m15_8u, m15_8i, m15_8r, m15_9, m15_10u, m15_10i, m15_10r, m15_12, m15_14, m15_15, m15_18, m15_19, m15_22, m15_24, m15_25, m15_26, m15_27, m15_28, m15_29, m15_32, m15_33, m15_36, m15_38, m15_39, m15_40, m15_43, m15_44, m15_47, m15_49, m15_50i, m15_51, m15_54, m15_57, m15_58, m15_61, m15_62, m15_63, m15_64, m15_67, m15_70, m16_0, m16_1u, m16_2, m16_3, m16_6, m16_7, m16_8u, m16_10, m16_11u, m16_13, m16_15, m16_16, m16_19, m16_20, m16_23, m16_25, m16_26, m16_28, m16_31, m16_34, m16_35u, m16_35i, m16_35r, m16_37, m16_39, m16_40, m16_43, m16_44, m16_47, m16_49, m16_50, m16_51, m16_53, m16_54, m16_55u, m16_55i, m16_55r, m16_57, m16_59, m16_62, m16_63, m16_66, m16_68, m16_69, m16_71, m16_74, m16_76, m16_77, m16_80, m16_82i, m16_83, m16_86, m16_89, m16_92, m16_95, m16_96, m17_0, m17_1, m17_4, m17_5, m17_6, m17_7, m17_8u, m17_10, m17_12u, m17_14, m17_15u, m17_17, m17_19, m17_22, m17_25, m17_27, m17_28, m17_31, m17_32, m17_33, m17_36, m17_37, m17_38, m17_40, m17_41, m17_42, m17_43, m17_45, m17_48, m17_49u, m17_49i, m17_49r, m17_51, m17_53, m17_55, m17_58, m17_60, m17_61, m17_63i, m17_65, m17_68, m17_71, m17_72, m18_0, m18_1u, m18_3, m18_4, m18_7, m18_8, m18_9u, m18_11, m18_12u, m18_14, m18_16, m18_17, m18_20, m18_21, m18_24, m18_26, m18_27u, m18_27i, m18_27r, m18_29, m18_30, m18_33, m18_35, m18_36, m18_38, m18_41, m18_43, m18_46, m18_48, m18_49, m18_51, m18_52, m18_53, m18_54, m18_56, m18_57, m18_58, m18_61, m18_63, m18_64, m18_65, m18_66i, m18_68, m18_71, m18_74, m18_76, m19_0, m19_1u, m19_2, m19_3, m19_4, m19_7, m19_8, m19_11, m19_12, m19_13, m19_16, m19_17, m19_18, m19_19, m19_20, m19_23, m19_24, m19_25, m19_28, m19_29, m19_30, m19_31, m19_34, m19_37, m19_38i, m19_39, m19_40, m19_41, m19_44, m19_45, m19_48, m19_49, m19_50, m19_53, m19_54, m19_55, m19_56, m19_59, m19_62, m20_0, m20_3, m20_4, m20_5, m20_8u, m20_10, m20_11, m20_12, m20_15, m20_16, m20_19, m20_20, m20_22, m20_25, m20_27, m20_30, m20_31u, m20_33, m20_34, m20_35, m20_38, m20_39, m20_42, m20_45, m20_46, m20_47, m20_50, m20_51, m20_52, m20_55, m20_56, m20_57, m20_60, m20_61, m20_62, m20_65, m20_67u, m20_69, m20_72, m20_74, m20_75, m20_78, m20_80, m20_82, m20_85, m20_87u, m20_89, m20_92, m20_93u, m20_95, m20_97, m20_98, m20_99, m20_100, m20_102, m20_105u, m20_107, m20_109, m20_111, m20_114, m20_115, m20_116, m20_118, m20_121, m20_122, m20_125, m20_126u, m20_128, m20_130, m20_133u, m20_135, m20_137, m20_139, m20_142, m20_143, m20_146, m20_148, m20_151, m20_152, m20_153, m20_155, m20_158, m20_160, m20_163, m20_164, m20_167, m20_168, m20_171, m20_172, m20_173, m20_175, m20_176, m20_179, m20_181, m20_184, m20_185, m20_188, m20_189, m20_192, m20_193, m20_194, m20_196, m20_197, m20_200, m20_202, m20_205, m20_206, m20_209, m20_210, m20_213, m20_214, m20_215, m20_217, m20_220, m20_222, m20_225, m20_226, m20_229, m20_230, m20_233, m20_234, m20_235, m20_237, m20_240, m20_241, m20_244, m20_245, m20_246, m20_248, m20_251, m20_253, m20_256, m20_257, m20_258, m20_260, m20_261, m20_262, m20_263, m20_265, m20_268u, m20_270, m20_272, m20_275, m20_277, m20_278, m20_281, m20_282, m20_285, m20_287, m20_290, m20_292u, m20_294, m20_296, m20_298, m20_301, m20_302, m20_305, m20_306, nb0, nb1, ou_a, Option.toList_some, Option.toList_none, List.nil_append, List.cons_append, getA_set2, setA_len, inB_iff, A0g_0, A0g_1, A0g_2, A0g_3, A0g_4, A0g_5, A0g_6, A0g_7, A0g_8, A0g_9, A0g_10, A0g_11, A0g_12, A0g_13, A0g_14, A0g_15, A0g_16, A0g_17, A0g_18, A0g_19, A0l_0, A0l_1, A0l_2, A0l_3, A0l_4, A0l_5, A0l_6, A0l_7, A0l_8, A0l_9, A0l_10, A0l_11, A0l_12, A0l_13, A0l_14, A0l_15, A0l_16, A0l_17, A0l_18, A0l_19]
    refine ⟨?_, ?_⟩ <;> simp only [ou_a, setA_len, put_len, put_tot, pad_0, tot_nil, List.length_nil, List.length_cons, A0l_0, A0l_1, A0l_2, A0l_3, A0l_4, A0l_5, A0l_6, A0l_7, A0l_8, A0l_9, A0l_10, A0l_11, A0l_12, A0l_13, A0l_14, A0l_15, A0l_16, A0l_17, A0l_18, A0l_19] <;> simp [setA_len, put_len, put_tot, pad_0, tot_nil, List.length_nil, List.length_cons, A0l_0, A0l_1, A0l_2, A0l_3, A0l_4, A0l_5, A0l_6, A0l_7, A0l_8, A0l_9, A0l_10, A0l_11, A0l_12, A0l_13, A0l_14, A0l_15, A0l_16, A0l_17, A0l_18, A0l_19]
  by_cases a2 : 8 < i0
  · by_cases b1 : i1 < 1
    · simp [a1, a2, b1, m0_0, m0_1, m0_4, m0_5, m0_12, m0_13, m0_20, m0_21, m0_28, m0_29, m0_36, m0_37, m0_44, m0_45, m0_52, m0_53, m0_60, m0_61, m0_68, m0_69, m0_75, m0_76, m0_82, m0_83, m0_89, m0_90, m0_96, m0_97, m0_104, m0_105, m0_112, m0_113, m0_120, m0_121, m0_128, m0_129, m0_136, m0_137, m0_144, m0_145, m0_152, m0_153, m0_160, m0_161u, m0_162, m0_163, m0_164, m0_167, m0_168i, m0_169, m0_170, m0_172, m0_175, m0_177i, m0_178, m0_179, m0_180, m0_183, m0_184, m0_185, m0_188, m0_189, m0_190, m0_193, m0_194, m0_195, m0_198, m0_199, m0_200, m0_203, m0_204u, m0_205, m0_206, m0_207, m0_210, m0_211, m0_214, m0_215, m0_216, m0_217, m0_220, m0_223, m0_224, m0_227, m1_0, m1_1, m1_2, m1_5, m1_6, m1_7, m1_10, m1_11u, m1_12, m1_13, m1_15, m1_18, m1_19, m1_22, m1_23, m1_24, m1_25, m1_26, m1_29, m1_30, m1_31, m1_32, m1_33, m1_36, m1_37, m1_38, m1_39, m1_40, m1_43, m1_44, m1_45, m1_46, m1_47, m1_50, m1_51, m1_52, m1_53, m1_54, m1_57, m1_58, m1_59, m1_60, m1_63, m1_66, m2_0, m2_1, m2_4, m2_5, m2_8, m2_11, m2_12, m2_13, m2_14, m2_15, m2_18, m2_19, m2_22, m2_25, m2_27, m2_28, m2_29, m2_30, m2_33, m2_34, m2_35, m2_38, m2_40, m2_41, m2_42, m2_43, m2_46, m2_47, m2_48, m2_51, m2_53, m2_54, m2_56, m2_57, m2_60, m2_62, m2_64, m2_67, m2_69, m2_70, m2_71, m2_73, m2_76, m2_79, m2_81, m2_82, m2_83, m2_84, m2_87, m2_88, m2_89, m2_92, m2_93, m2_94, m2_97, m2_98, m2_99, m2_102, m2_103, m2_105, m2_108, m2_109u, m2_111, m2_113, m2_114, m2_117, m2_118, m2_121, m2_123, m2_124, m2_125, m2_126, m2_129, m2_131, m2_132, m2_133, m2_136, m2_139, m2_140, m3_0, m3_1, m3_4, m3_7, m3_9, m3_10, m3_11, m3_14u, m3_15, m3_16, m3_18, m3_21, m3_22, m3_23, m3_26, m3_27, m3_28, m3_29, m3_30, m3_33, m3_34, m3_37, m3_40u, m3_41, m3_42, m3_45, m3_48, m3_49, m3_50, m3_53, m3_54, m3_55, m3_58, m3_60, m3_61, m3_62, m3_63, m3_66, m3_67, m3_68, m3_69, m3_70, m3_73u, m3_74, m3_75, m3_78, m3_79, m3_80, m3_83, m3_84, m3_85, m3_88, m3_90, m3_91, m3_92, m3_93, m3_94, m3_95, m3_98, m3_99, m3_100, m3_101, m3_102, m3_105, m3_106, m3_107, m3_110, m3_111, m3_112, m3_115, m3_116, m3_117, m3_120, m3_121, m3_124, m3_125, m4_0, m4_1, m4_4, m5_0, m5_1, m5_2, m5_5, m5_8, m5_9, m5_10, m5_11, m5_14, m5_15, m5_16, m6_0, m6_1, m6_4, m6_5, m6_6, m6_9, m6_12, m6_13, m6_16, m6_17, m7_0, m7_1, m7_2, m7_5, m7_8, m7_9, m7_10, m7_11, m7_14, m7_15, m7_16, m8_0, m8_1, m8_4, m9_0, m9_1, m9_4, m10_0, m10_1u, m10_2, m10_3, m10_4, m10_7, m10_10, m10_11, m10_14, m10_15, m10_16, m10_17, m10_20, m10_21, m10_22, m10_25, m10_28, m10_29, m11_0, m11_1, m11_2, m11_5, m11_6, m11_7, m11_10, m11_13, m11_14, m11_15, m11_16, m11_17, m11_20u, m11_21, m11_22, m11_23, m11_26, m11_29, m11_30, m11_31, m11_32, m11_33, m11_34, m11_35, m12_0, m12_1u, m12_2, m12_3u, m12_5, m12_6u, m12_8, m12_10, m12_12, m12_15, m12_17, m12_20, m12_23, m12_24, m12_26, m12_27u, m12_27i, m12_27r, m12_29, m12_31i, m12_32, m12_34i, m12_36, m12_39, m12_42, m12_43, m13_0, m13_1, m13_4, m13_5, m13_6, m13_9, m13_10, m13_11, m13_14, m13_15, m13_16, m13_19, m13_20, m13_21, m13_24, m13_25, m13_26, m13_29, m13_30, m13_31, m13_34, m13_35, m13_36, m13_39, m13_40, m13_41u, m13_42, m13_43, m13_44, m13_47, m13_48, m13_51, m13_52, m13_53, m13_54, m13_55, m13_56, m13_57, m13_60, m13_61, m13_62, m13_63, m13_64, m13_67, m13_68, m13_69, m13_70, m13_71, m13_72, m13_73, m13_76, m13_77, m13_78, m13_79, m13_82, m13_85, m14_0, m14_1, m14_2, m14_5, m14_6u, m14_7, m14_8, m14_9, m14_12, m14_13, m14_14, m14_15, m14_18u, m14_18i, m14_18r, m14_19, m14_20, m14_23, m14_24, m14_25, m14_26, m14_27, m14_28, m14_29, m14_30, m14_33u, m14_33i, m14_33r, m14_35, m14_37, m14_40, m14_41, m14_42, m14_43, m14_46, m14_47, m14_49, m14_50, m14_53, m14_56, m14_57, m15_0, m15_1u, m15_2, m15_3, m15_4, m15_7, m15_8u, m15_8i, m15_8r, m15_9, m15_10u, m15_10i, m15_10r, m15_12, m15_14, m15_15, m15_18, m15_19, m15_22, m15_24, m15_25, m15_26, m15_27, m15_28, m15_29, m15_32, m15_33, m15_36, m15_38, m15_39, m15_40, m15_43, m15_44, m15_47, m15_49, m15_50i, m15_51, m15_54, m15_57, m15_58, m15_61, m15_62, m15_63, m15_64, m15_67, m15_70, m16_0, m16_1u, m16_2, m16_3, m16_6, m16_7, m16_8u, m16_10, m16_11u, m16_13, m16_15, m16_16, m16_19, m16_20, m16_23, m16_25, m16_26, m16_28, m16_31, m16_34, m16_35u, m16_35i, m16_35r, m16_37, m16_39, m16_40, m16_43, m16_44, m16_47, m16_49, m16_50, m16_51, m16_53, m16_54, m16_55u, m16_55i, m16_55r, m16_57, m16_59, m16_62, m16_63, m16_66, m16_68, m16_69, m16_71, m16_74, m16_76, m16_77, m16_80, m16_82i, m16_83, m16_86, m16_89, m16_92, m16_95, m16_96, m17_0, m17_1, m17_4, m17_5, m17_6, m17_7, m17_8u, m17_10, m17_12u, m17_14, m17_15u, m17_17, m17_19, m17_22, m17_25, m17_27, m17_28, m17_31, m17_32, m17_33, m17_36, m17_37, m17_38, m17_40, m17_41, m17_42, m17_43, m17_45, m17_48, m17_49u, m17_49i, m17_49r, m17_51, m17_53, m17_55, m17_58, m17_60, m17_61, m17_63i, m17_65, m17_68, m17_71, m17_72, m18_0, m18_1u, m18_3, m18_4, m18_7, m18_8, m18_9u, m18_11, m18_12u, m18_14, m18_16, m18_17, m18_20, m18_21, m18_24, m18_26, m18_27u, m18_27i, m18_27r, m18_29, m18_30, m18_33, m18_35, m18_36, m18_38, m18_41, m18_43, m18_46, m18_48, m18_49, m18_51, m18_52, m18_53, m18_54, m18_56, m18_57, m18_58, m18_61, m18_63, m18_64, m18_65, m18_66i, m18_68, m18_71, m18_74, m18_76, m19_0, m19_1u, m19_2, m19_3, m19_4, m19_7, m19_8, m19_11, m19_12, m19_13, m19_16, m19_17, m19_18, m19_19, m19_20, m19_23, m19_24, m19_25, m19_28, m19_29, m19_30, m19_31, m19_34, m19_37, m19_38i, m19_39, m19_40, m19_41, m19_44, m19_45, m19_48, m19_49, m19_50, m19_53, m19_54, m19_55, m19_56, m19_59, m19_62, m20_0, m20_3, m20_4, m20_5, m20_8u, m20_10, m20_11, m20_12, m20_15, m20_16, m20_19, m20_20, m20_22, m20_25, m20_27, m20_30, m20_31u, m20_33, m20_34, m20_35, m20_38, m20_39, m20_42, m20_45, m20_46, m20_47, m20_50, m20_51, m20_52, m20_55, m20_56, m20_57, m20_60, m20_61, m20_62, m20_65, m20_67u, m20_69, m20_72, m20_74, m20_75, m20_78, m20_80, m20_82, m20_85, m20_87u, m20_89, m20_92, m20_93u, m20_95, m20_97, m20_98, m20_99, m20_100, m20_102, m20_105u, m20_107, m20_109, m20_111, m20_114, m20_115, m20_116, m20_118, m20_121, m20_122, m20_125, m20_126u, m20_128, m20_130, m20_133u, m20_135, m20_137, m20_139, m20_142, m20_143, m20_146, m20_148, m20_151, m20_152, m20_153, m20_155, m20_158, m20_160, m20_163, m20_164, m20_167, m20_168, m20_171, m20_172, m20_173, m20_175, m20_176, m20_179, m20_181, m20_184, m20_185, m20_188, m20_189, m20_192, m20_193, m20_194, m20_196, m20_197, m20_200, m20_202, m20_205, m20_206, m20_209, m20_210, m20_213, m20_214, m20_215, m20_217, m20_220, m20_222, m20_225, m20_226, m20_229, m20_230, m20_233, m20_234, m20_235, m20_237, m20_240, m20_241, m20_244, m20_245, m20_246, m20_248, m20_251, m20_253, m20_256, m20_257, m20_258, m20_260, m20_261, m20_262, m20_263, m20_265, m20_268u, m20_270, m20_272, m20_275, m20_277, m20_278, m20_281, m20_282, m20_285, m20_287, m20_290, m20_292u, m20_294, m20_296, m20_298, m20_301, m20_302, m20_305, m20_306, nb0, nb1, ou_a, Option.toList_some, Option.toList_none, List.nil_append, List.cons_append, getA_set2, setA_len, inB_iff, A0g_0, A0g_1, A0g_2, A0g_3, A0g_4, A0g_5, A0g_6, A0g_7, A0g_8, A0g_9, A0g_10, A0g_11, A0g_12, A0g_13, A0g_14, A0g_15, A0g_16, A0g_17, A0g_18, A0g_19, A0l_0, A0l_1, A0l_2, A0l_3, A0l_4, A0l_5, A0l_6, A0l_7, A0l_8, A0l_9, A0l_10, A0l_11, A0l_12, A0l_13, A0l_14, A0l_15, A0l_16, A0l_17, A0l_18, A0l_19]
      refine ⟨?_, ?_⟩ <;> simp only [ou_a, setA_len, put_len, put_tot, pad_0, tot_nil, List.length_nil, List.length_cons, A0l_0, A0l_1, A0l_2, A0l_3, A0l_4, A0l_5, A0l_6, A0l_7, A0l_8, A0l_9, A0l_10, A0l_11, A0l_12, A0l_13, A0l_14, A0l_15, A0l_16, A0l_17, A0l_18, A0l_19] <;> simp [setA_len, put_len, put_tot, pad_0, tot_nil, List.length_nil, List.length_cons, A0l_0, A0l_1, A0l_2, A0l_3, A0l_4, A0l_5, A0l_6, A0l_7, A0l_8, A0l_9, A0l_10, A0l_11, A0l_12, A0l_13, A0l_14, A0l_15, A0l_16, A0l_17, A0l_18, A0l_19]
    by_cases b2 : 840 < i1
    · simp [a1, a2, b1, b2, m0_0, m0_1, m0_4, m0_5, m0_12, m0_13, m0_20, m0_21, m0_28, m0_29, m0_36, m0_37, m0_44, m0_45, m0_52, m0_53, m0_60, m0_61, m0_68, m0_69, m0_75, m0_76, m0_82, m0_83, m0_89, m0_90, m0_96, m0_97, m0_104, m0_105, m0_112, m0_113, m0_120, m0_121, m0_128, m0_129, m0_136, m0_137, m0_144, m0_145, m0_152, m0_153, m0_160, m0_161u, m0_162, m0_163, m0_164, m0_167, m0_168i, m0_169, m0_170, m0_172, m0_175, m0_177i, m0_178, m0_179, m0_180, m0_183, m0_184, m0_185, m0_188, m0_189, m0_190, m0_193, m0_194, m0_195, m0_198, m0_199, m0_200, m0_203, m0_204u, m0_205, m0_206, m0_207, m0_210, m0_211, m0_214, m0_215, m0_216, m0_217, m0_220, m0_223, m0_224, m0_227, m1_0, m1_1, m1_2, m1_5, m1_6, m1_7, m1_10, m1_11u, m1_12, m1_13, m1_15, m1_18, m1_19, m1_22, m1_23, m1_24, m1_25, m1_26, m1_29, m1_30, m1_31, m1_32, m1_33, m1_36, m1_37, m1_38, m1_39, m1_40, m1_43, m1_44, m1_45, m1_46, m1_47, m1_50, m1_51, m1_52, m1_53, m1_54, m1_57, m1_58, m1_59, m1_60, m1_63, m1_66, m2_0, m2_1, m2_4, m2_5, m2_8, m2_11, m2_12, m2_13, m2_14, m2_15, m2_18, m2_19, m2_22, m2_25, m2_27, m2_28, m2_29, m2_30, m2_33, m2_34, m2_35, m2_38, m2_40, m2_41, m2_42, m2_43, m2_46, m2_47, m2_48, m2_51, m2_53, m2_54, m2_56, m2_57, m2_60, m2_62, m2_64, m2_67, m2_69, m2_70, m2_71, m2_73, m2_76, m2_79, m2_81, m2_82, m2_83, m2_84, m2_87, m2_88, m2_89, m2_92, m2_93, m2_94, m2_97, m2_98, m2_99, m2_102, m2_103, m2_105, m2_108, m2_109u, m2_111, m2_113, m2_114, m2_117, m2_118, m2_121, m2_123, m2_124, m2_125, m2_126, m2_129, m2_131, m2_132, m2_133, m2_136, m2_139, m2_140, m3_0, m3_1, m3_4, m3_7, m3_9, m3_10, m3_11, m3_14u, m3_15, m3_16, m3_18, m3_21, m3_22, m3_23, m3_26, m3_27, m3_28, m3_29, m3_30, m3_33, m3_34, m3_37, m3_40u, m3_41, m3_42, m3_45, m3_48, m3_49, m3_50, m3_53, m3_54, m3_55, m3_58, m3_60, m3_61, m3_62, m3_63, m3_66, m3_67, m3_68, m3_69, m3_70, m3_73u, m3_74, m3_75, m3_78, m3_79, m3_80, m3_83, m3_84, m3_85, m3_88, m3_90, m3_91, m3_92, m3_93, m3_94, m3_95, m3_98, m3_99, m3_100, m3_101, m3_102, m3_105, m3_106, m3_107, m3_110, m3_111, m3_112, m3_115, m3_116, m3_117, m3_120, m3_121, m3_124, m3_125, m4_0, m4_1, m4_4, m5_0, m5_1, m5_2, m5_5, m5_8, m5_9, m5_10, m5_11, m5_14, m5_15, m5_16, m6_0, m6_1, m6_4, m6_5, m6_6, m6_9, m6_12, m6_13, m6_16, m6_17, m7_0, m7_1, m7_2, m7_5, m7_8, m7_9, m7_10, m7_11, m7_14, m7_15, m7_16, m8_0, m8_1, m8_4, m9_0, m9_1, m9_4, m10_0, m10_1u, m10_2, m10_3, m10_4, m10_7, m10_10, m10_11, m10_14, m10_15, m10_16, m10_17, m10_20, m10_21, m10_22, m10_25, m10_28, m10_29, m11_0, m11_1, m11_2, m11_5, m11_6, m11_7, m11_10, m11_13, m11_14, m11_15, m11_16, m11_17, m11_20u, m11_21, m11_22, m11_23, m11_26, m11_29, m11_30, m11_31, m11_32, m11_33, m11_34, m11_35, m12_0, m12_1u, m12_2, m12_3u, m12_5, m12_6u, m12_8, m12_10, m12_12, m12_15, m12_17, m12_20, m12_23, m12_24, m12_26, m12_27u, m12_27i, m12_27r, m12_29, m12_31i, m12_32, m12_34i, m12_36, m12_39, m12_42, m12_43, m13_0, m13_1, m13_4, m13_5, m13_6, m13_9, m13_10, m13_11, m13_14, m13_15, m13_16, m13_19, m13_20, m13_21, m13_24, m13_25, m13_26, m13_29, m13_30, m13_31, m13_34, m13_35, m13_36, m13_39, m13_40, m13_41u, m13_42, m13_43, m13_44, m13_47, m13_48, m13_51, m13_52, m13_53, m13_54, m13_55, m13_56, m13_57, m13_60, m13_61, m13_62, m13_63, m13_64, m13_67, m13_68, m13_69, m13_70, m13_71, m13_72, m13_73, m13_76, m13_77, m13_78, m13_79, m13_82, m13_85, m14_0, m14_1, m14_2, m14_5, m14_6u, m14_7, m14_8, m14_9, m14_12, m14_13, m14_14, m14_15, m14_18u, m14_18i, m14_18r, m14_19, m14_20, m14_23, m14_24, m14_25, m14_26, m14_27, m14_28, m14_29, m14_30, m14_33u, m14_33i, m14_33r, m14_35, m14_37, m14_40, m14_41, m14_42, m14_43, m14_46, m14_47, m14_49, m14_50, m14_53, m14_56, m14_57, m15_0, m15_1u, m15_2, m15_3, m15_4, m15_7, m15_8u, m15_8i, m15_8r, m15_9, m15_10u, m15_10i, m15_10r, m15_12, m15_14, m15_15, m15_18, m15_19, m15_22, m15_24, m15_25, m15_26, m15_27, m15_28, m15_29, m15_32, m15_33, m15_36, m15_38, m15_39, m15_40, m15_43, m15_44, m15_47, m15_49, m15_50i, m15_51, m15_54, m15_57, m15_58, m15_61, m15_62, m15_63, m15_64, m15_67, m15_70, m16_0, m16_1u, m16_2, m16_3, m16_6, m16_7, m16_8u, m16_10, m16_11u, m16_13, m16_15, m16_16, m16_19, m16_20, m16_23, m16_25, m16_26, m16_28, m16_31, m16_34, m16_35u, m16_35i, m16_35r, m16_37, m16_39, m16_40, m16_43, m16_44, m16_47, m16_49, m16_50, m16_51, m16_53, m16_54, m16_55u, m16_55i, m16_55r, m16_57, m16_59, m16_62, m16_63, m16_66, m16_68, m16_69, m16_71, m16_74, m16_76, m16_77, m16_80, m16_82i, m16_83, m16_86, m16_89, m16_92, m16_95, m16_96, m17_0, m17_1, m17_4, m17_5, m17_6, m17_7, m17_8u, m17_10, m17_12u, m17_14, m17_15u, m17_17, m17_19, m17_22, m17_25, m17_27, m17_28, m17_31, m17_32, m17_33, m17_36, m17_37, m17_38, m17_40, m17_41, m17_42, m17_43, m17_45, m17_48, m17_49u, m17_49i, m17_49r, m17_51, m17_53, m17_55, m17_58, m17_60, m17_61, m17_63i, m17_65, m17_68, m17_71, m17_72, m18_0, m18_1u, m18_3, m18_4, m18_7, m18_8, m18_9u, m18_11, m18_12u, m18_14, m18_16, m18_17, m18_20, m18_21, m18_24, m18_26, m18_27u, m18_27i, m18_27r, m18_29, m18_30, m18_33, m18_35, m18_36, m18_38, m18_41, m18_43, m18_46, m18_48, m18_49, m18_51, m18_52, m18_53, m18_54, m18_56, m18_57, m18_58, m18_61, m18_63, m18_64, m18_65, m18_66i, m18_68, m18_71, m18_74, m18_76, m19_0, m19_1u, m19_2, m19_3, m19_4, m19_7, m19_8, m19_11, m19_12, m19_13, m19_16, m19_17, m19_18, m19_19, m19_20, m19_23, m19_24, m19_25, m19_28, m19_29, m19_30, m19_31, m19_34, m19_37, m19_38i, m19_39, m19_40, m19_41, m19_44, m19_45, m19_48, m19_49, m19_50, m19_53, m19_54, m19_55, m19_56, m19_59, m19_62, m20_0, m20_3, m20_4, m20_5, m20_8u, m20_10, m20_11, m20_12, m20_15, m20_16, m20_19, m20_20, m20_22, m20_25, m20_27, m20_30, m20_31u, m20_33, m20_34, m20_35, m20_38, m20_39, m20_42, m20_45, m20_46, m20_47, m20_50, m20_51, m20_52, m20_55, m20_56, m20_57, m20_60, m20_61, m20_62, m20_65, m20_67u, m20_69, m20_72, m20_74, m20_75, m20_78, m20_80, m20_82, m20_85, m20_87u, m20_89, m20_92, m20_93u, m20_95, m20_97, m20_98, m20_99, m20_100, m20_102, m20_105u, m20_107, m20_109, m20_111, m20_114, m20_115, m20_116, m20_118, m20_121, m20_122, m20_125, m20_126u, m20_128, m20_130, m20_133u, m20_135, m20_137, m20_139, m20_142, m20_143, m20_146, m20_148, m20_151, m20_152, m20_153, m20_155, m20_158, m20_160, m20_163, m20_164, m20_167, m20_168, m20_171, m20_172, m20_173, m20_175, m20_176, m20_179, m20_181, m20_184, m20_185, m20_188, m20_189, m20_192, m20_193, m20_194, m20_196, m20_197, m20_200, m20_202, m20_205, m20_206, m20_209, m20_210, m20_213, m20_214, m20_215, m20_217, m20_220, m20_222, m20_225, m20_226, m20_229, m20_230, m20_233, m20_234, m20_235, m20_237, m20_240, m20_241, m20_244, m20_245, m20_246, m20_248, m20_251, m20_253, m20_256, m20_257, m20_258, m20_260, m20_261, m20_262, m20_263, m20_265, m20_268u, m20_270, m20_272, m20_275, m20_277, m20_278, m20_281, m20_282, m20_285, m20_287, m20_290, m20_292u, m20_294, m20_296, m20_298, m20_301, m20_302, m20_305, m20_306, nb0, nb1, ou_a, Option.toList_some, Option.toList_none, List.nil_append, List.cons_append, getA_set2, setA_len, inB_iff, A0g_0, A0g_1, A0g_2, A0g_3, A0g_4, A0g_5, A0g_6, A0g_7, A0g_8, A0g_9, A0g_10, A0g_11, A0g_12, A0g_13, A0g_14, A0g_15, A0g_16, A0g_17, A0g_18, A0g_19, A0l_0, A0l_1, A0l_2, A0l_3, A0l_4, A0l_5, A0l_6, A0l_7, A0l_8, A0l_9, A0l_10, A0l_11, A0l_12, A0l_13, A0l_14, A0l_15, A0l_16, A0l_17, A0l_18, A0l_19]
      refine ⟨?_, ?_⟩ <;> simp only [ou_a, setA_len, put_len, put_tot, pad_0, tot_nil, List.length_nil, List.length_cons, A0l_0, A0l_1, A0l_2, A0l_3, A0l_4, A0l_5, A0l_6, A0l_7, A0l_8, A0l_9, A0l_10, A0l_11, A0l_12, A0l_13, A0l_14, A0l_15, A0l_16, A0l_17, A0l_18, A0l_19] <;> simp [setA_len, put_len, put_tot, pad_0, tot_nil, List.length_nil, List.length_cons, A0l_0, A0l_1, A0l_2, A0l_3, A0l_4, A0l_5, A0l_6, A0l_7, A0l_8, A0l_9, A0l_10, A0l_11, A0l_12, A0l_13, A0l_14, A0l_15, A0l_16, A0l_17, A0l_18, A0l_19]
    by_cases b3 : i2 < 1
    · simp [a1, a2, b1, b2, b3, m0_0, m0_1, m0_4, m0_5, m0_12, m0_13, m0_20, m0_21, m0_28, m0_29, m0_36, m0_37, m0_44, m0_45, m0_52, m0_53, m0_60, m0_61, m0_68, m0_69, m0_75, m0_76, m0_82, m0_83, m0_89, m0_90, m0_96, m0_97, m0_104, m0_105, m0_112, m0_113, m0_120, m0_121, m0_128, m0_129, m0_136, m0_137, m0_144, m0_145, m0_152, m0_153, m0_160, m0_161u, m0_162, m0_163, m0_164, m0_167, m0_168i, m0_169, m0_170, m0_172, m0_175, m0_177i, m0_178, m0_179, m0_180, m0_183, m0_184, m0_185, m0_188, m0_189, m0_190, m0_193, m0_194, m0_195, m0_198, m0_199, m0_200, m0_203, m0_204u, m0_205, m0_206, m0_207, m0_210, m0_211, m0_214, m0_215, m0_216, m0_217, m0_220, m0_223, m0_224, m0_227, m1_0, m1_1, m1_2, m1_5, m1_6, m1_7, m1_10, m1_11u, m1_12, m1_13, m1_15, m1_18, m1_19, m1_22, m1_23, m1_24, m1_25, m1_26, m1_29, m1_30, m1_31, m1_32, m1_33, m1_36, m1_37, m1_38, m1_39, m1_40, m1_43, m1_44, m1_45, m1_46, m1_47, m1_50, m1_51, m1_52, m1_53, m1_54, m1_57, m1_58, m1_59, m1_60, m1_63, m1_66, m2_0, m2_1, m2_4, m2_5, m2_8, m2_11, m2_12, m2_13, m2_14, m2_15, m2_18, m2_19, m2_22, m2_25, m2_27, m2_28, m2_29, m2_30, m2_33, m2_34, m2_35, m2_38, m2_40, m2_41, m2_42, m2_43, m2_46, m2_47, m2_48, m2_51, m2_53, m2_54, m2_56, m2_57, m2_60, m2_62, m2_64, m2_67, m2_69, m2_70, m2_71, m2_73, m2_76, m2_79, m2_81, m2_82, m2_83, m2_84, m2_87, m2_88, m2_89, m2_92, m2_93, m2_94, m2_97, m2_98, m2_99, m2_102, m2_103, m2_105, m2_108, m2_109u, m2_111, m2_113, m2_114, m2_117, m2_118, m2_121, m2_123, m2_124, m2_125, m2_126, m2_129, m2_131, m2_132, m2_133, m2_136, m2_139, m2_140, m3_0, m3_1, m3_4, m3_7, m3_9, m3_10, m3_11, m3_14u, m3_15, m3_16, m3_18, m3_21, m3_22, m3_23, m3_26, m3_27, m3_28, m3_29, m3_30, m3_33, m3_34, m3_37, m3_40u, m3_41, m3_42, m3_45, m3_48, m3_49, m3_50, m3_53, m3_54, m3_55, m3_58, m3_60, m3_61, m3_62, m3_63, m3_66, m3_67, m3_68, m3_69, m3_70, m3_73u, m3_74, m3_75, m3_78, m3_79, m3_80, m3_83, m3_84, m3_85, m3_88, m3_90, m3_91, m3_92, m3_93, m3_94, m3_95, m3_98, m3_99, m3_100, m3_101, m3_102, m3_105, m3_106, m3_107, m3_110, m3_111, m3_112, m3_115, m3_116, m3_117, m3_120, m3_121, m3_124, m3_125, m4_0, m4_1, m4_4, m5_0, m5_1, m5_2, m5_5, m5_8, m5_9, m5_10, m5_11, m5_14, m5_15, m5_16, m6_0, m6_1, m6_4, m6_5, m6_6, m6_9, m6_12, m6_13, m6_16, m6_17, m7_0, m7_1, m7_2, m7_5, m7_8, m7_9, m7_10, m7_11, m7_14, m7_15, m7_16, m8_0, m8_1, m8_4, m9_0, m9_1, m9_4, m10_0, m10_1u, m10_2, m10_3, m10_4, m10_7, m10_10, m10_11, m10_14, m10_15, m10_16, m10_17, m10_20, m10_21, m10_22, m10_25, m10_28, m10_29, m11_0, m11_1, m11_2, m11_5, m11_6, m11_7, m11_10, m11_13, m11_14, m11_15, m11_16, m11_17, m11_20u, m11_21, m11_22, m11_23, m11_26, m11_29, m11_30, m11_31, m11_32, m11_33, m11_34, m11_35, m12_0, m12_1u, m12_2, m12_3u, m12_5, m12_6u, m12_8, m12_10, m12_12, m12_15, m12_17, m12_20, m12_23, m12_24, m12_26, m12_27u, m12_27i, m12_27r, m12_29, m12_31i, m12_32, m12_34i, m12_36, m12_39, m12_42, m12_43, m13_0, m13_1, m13_4, m13_5, m13_6, m13_9, m13_10, m13_11, m13_14, m13_15, m13_16, m13_19, m13_20, m13_21, m13_24, m13_25, m13_26, m13_29, m13_30, m13_31, m13_34, m13_35, m13_36, m13_39, m13_40, m13_41u, m13_42, m13_43, m13_44, m13_47, m13_48, m13_51, m13_52, m13_53, m13_54, m13_55, m13_56, m13_57, m13_60, m13_61, m13_62, m13_63, m13_64, m13_67, m13_68, m13_69, m13_70, m13_71, m13_72, m13_73, m13_76, m13_77, m13_78, m13_79, m13_82, m13_85, m14_0, m14_1, m14_2, m14_5, m14_6u, m14_7, m14_8, m14_9, m14_12, m14_13, m14_14, m14_15, m14_18u, m14_18i, m14_18r, m14_19, m14_20, m14_23, m14_24, m14_25, m14_26, m14_27, m14_28, m14_29, m14_30, m14_33u, m14_33i, m14_33r, m14_35, m14_37, m14_40, m14_41, m14_42, m14_43, m14_46, m14_47, m14_49, m14_50, m14_53, m14_56, m14_57, m15_0, m15_1u, m15_2, m15_3, m15_4, m15_7, m15_8u, m15_8i, m15_8r, m15_9, m15_10u, m15_10i, m15_10r, m15_12, m15_14, m15_15, m15_18, m15_19, m15_22, m15_24, m15_25, m15_26, m15_27, m15_28, m15_29, m15_32, m15_33, m15_36, m15_38, m15_39, m15_40, m15_43, m15_44, m15_47, m15_49, m15_50i, m15_51, m15_54, m15_57, m15_58, m15_61, m15_62, m15_63, m15_64, m15_67, m15_70, m16_0, m16_1u, m16_2, m16_3, m16_6, m16_7, m16_8u, m16_10, m16_11u, m16_13, m16_15, m16_16, m16_19, m16_20, m16_23, m16_25, m16_26, m16_28, m16_31, m16_34, m16_35u, m16_35i, m16_35r, m16_37, m16_39, m16_40, m16_43, m16_44, m16_47, m16_49, m16_50, m16_51, m16_53, m16_54, m16_55u, m16_55i, m16_55r, m16_57, m16_59, m16_62, m16_63, m16_66, m16_68, m16_69, m16_71, m16_74, m16_76, m16_77, m16_80, m16_82i, m16_83, m16_86, m16_89, m16_92, m16_95, m16_96, m17_0, m17_1, m17_4, m17_5, m17_6, m17_7, m17_8u, m17_10, m17_12u, m17_14, m17_15u, m17_17, m17_19, m17_22, m17_25, m17_27, m17_28, m17_31, m17_32, m17_33, m17_36, m17_37, m17_38, m17_40, m17_41, m17_42, m17_43, m17_45, m17_48, m17_49u, m17_49i, m17_49r, m17_51, m17_53, m17_55, m17_58, m17_60, m17_61, m17_63i, m17_65, m17_68, m17_71, m17_72, m18_0, m18_1u, m18_3, m18_4, m18_7, m18_8, m18_9u, m18_11, m18_12u, m18_14, m18_16, m18_17, m18_20, m18_21, m18_24, m18_26, m18_27u, m18_27i, m18_27r, m18_29, m18_30, m18_33, m18_35, m18_36, m18_38, m18_41, m18_43, m18_46, m18_48, m18_49, m18_51, m18_52, m18_53, m18_54, m18_56, m18_57, m18_58, m18_61, m18_63, m18_64, m18_65, m18_66i, m18_68, m18_71, m18_74, m18_76, m19_0, m19_1u, m19_2, m19_3, m19_4, m19_7, m19_8, m19_11, m19_12, m19_13, m19_16, m19_17, m19_18, m19_19, m19_20, m19_23, m19_24, m19_25, m19_28, m19_29, m19_30, m19_31, m19_34, m19_37, m19_38i, m19_39, m19_40, m19_41, m19_44, m19_45, m19_48, m19_49, m19_50, m19_53, m19_54, m19_55, m19_56, m19_59, m19_62, m20_0, m20_3, m20_4, m20_5, m20_8u, m20_10, m20_11, m20_12, m20_15, m20_16, m20_19, m20_20, m20_22, m20_25, m20_27, m20_30, m20_31u, m20_33, m20_34, m20_35, m20_38, m20_39, m20_42, m20_45, m20_46, m20_47, m20_50, m20_51, m20_52, m20_55, m20_56, m20_57, m20_60, m20_61, m20_62, m20_65, m20_67u, m20_69, m20_72, m20_74, m20_75, m20_78, m20_80, m20_82, m20_85, m20_87u, m20_89, m20_92, m20_93u, m20_95, m20_97, m20_98, m20_99, m20_100, m20_102, m20_105u, m20_107, m20_109, m20_111, m20_114, m20_115, m20_116, m20_118, m20_121, m20_122, m20_125, m20_126u, m20_128, m20_130, m20_133u, m20_135, m20_137, m20_139, m20_142, m20_143, m20_146, m20_148, m20_151, m20_152, m20_153, m20_155, m20_158, m20_160, m20_163, m20_164, m20_167, m20_168, m20_171, m20_172, m20_173, m20_175, m20_176, m20_179, m20_181, m20_184, m20_185, m20_188, m20_189, m20_192, m20_193, m20_194, m20_196, m20_197, m20_200, m20_202, m20_205, m20_206, m20_209, m20_210, m20_213, m20_214, m20_215, m20_217, m20_220, m20_222, m20_225, m20_226, m20_229, m20_230, m20_233, m20_234, m20_235, m20_237, m20_240, m20_241, m20_244, m20_245, m20_246, m20_248, m20_251, m20_253, m20_256, m20_257, m20_258, m20_260, m20_261, m20_262, m20_263, m20_265, m20_268u, m20_270, m20_272, m20_275, m20_277, m20_278, m20_281, m20_282, m20_285, m20_287, m20_290, m20_292u, m20_294, m20_296, m20_298, m20_301, m20_302, m20_305, m20_306, nb0, nb1, ou_a, Option.toList_some, Option.toList_none, List.nil_append, List.cons_append, getA_set2, setA_len, inB_iff, A0g_0, A0g_1, A0g_2, A0g_3, A0g_4, A0g_5, A0g_6, A0g_7, A0g_8, A0g_9, A0g_10, A0g_11, A0g_12, A0g_13, A0g_14, A0g_15, A0g_16, A0g_17, A0g_18, A0g_19, A0l_0, A0l_1, A0l_2, A0l_3, A0l_4, A0l_5, A0l_6, A0l_7, A0l_8, A0l_9, A0l_10, A0l_11, A0l_12, A0l_13, A0l_14, A0l_15, A0l_16, A0l_17, A0l_18, A0l_19]
      refine ⟨?_, ?_⟩ <;> simp only [ou_a, setA_len, put_len, put_tot, pad_0, tot_nil, List.length_nil, List.length_cons, A0l_0, A0l_1, A0l_2, A0l_3, A0l_4, A0l_5, A0l_6, A0l_7, A0l_8, A0l_9, A0l_10, A0l_11, A0l_12, A0l_13, A0l_14, A0l_15, A0l_16, A0l_17, A0l_18, A0l_19] <;> simp [setA_len, put_len, put_tot, pad_0, tot_nil, List.length_nil, List.length_cons, A0l_0, A0l_1, A0l_2, A0l_3, A0l_4, A0l_5, A0l_6, A0l_7, A0l_8, A0l_9, A0l_10, A0l_11, A0l_12, A0l_13, A0l_14, A0l_15, A0l_16, A0l_17, A0l_18, A0l_19]
    by_cases b4 : i1 < i2
    · simp [a1, a2, b1, b2, b3, b4, m0_0, m0_1, m0_4, m0_5, m0_12, m0_13, m0_20, m0_21, m0_28, m0_29, m0_36, m0_37, m0_44, m0_45, m0_52, m0_53, m0_60, m0_61, m0_68, m0_69, m0_75, m0_76, m0_82, m0_83, m0_89, m0_90, m0_96, m0_97, m0_104, m0_105, m0_112, m0_113, m0_120, m0_121, m0_128, m0_129, m0_136, m0_137, m0_144, m0_145, m0_152, m0_153, m0_160, m0_161u, m0_162, m0_163, m0_164, m0_167, m0_168i, m0_169, m0_170, m0_172, m0_175, m0_177i, m0_178, m0_179, m0_180, m0_183, m0_184, m0_185, m0_188, m0_189, m0_190, m0_193, m0_194, m0_195, m0_198, m0_199, m0_200, m0_203, m0_204u, m0_205, m0_206, m0_207, m0_210, m0_211, m0_214, m0_215, m0_216, m0_217, m0_220, m0_223, m0_224, m0_227, m1_0, m1_1, m1_2, m1_5, m1_6, m1_7, m1_10, m1_11u, m1_12, m1_13, m1_15, m1_18, m1_19, m1_22, m1_23, m1_24, m1_25, m1_26, m1_29, m1_30, m1_31, m1_32, m1_33, m1_36, m1_37, m1_38, m1_39, m1_40, m1_43, m1_44, m1_45, m1_46, m1_47, m1_50, m1_51, m1_52, m1_53, m1_54, m1_57, m1_58, m1_59, m1_60, m1_63, m1_66, m2_0, m2_1, m2_4, m2_5, m2_8, m2_11, m2_12, m2_13, m2_14, m2_15, m2_18, m2_19, m2_22, m2_25, m2_27, m2_28, m2_29, m2_30, m2_33, m2_34, m2_35, m2_38, m2_40, m2_41, m2_42, m2_43, m2_46, m2_47, m2_48, m2_51, m2_53, m2_54, m2_56, m2_57, m2_60, m2_62, m2_64, m2_67, m2_69, m2_70, m2_71, m2_73, m2_76, m2_79, m2_81, m2_82, m2_83, m2_84, m2_87, m2_88, m2_89, m2_92, m2_93, m2_94, m2_97, m2_98, m2_99, m2_102, m2_103, m2_105, m2_108, m2_109u, m2_111, m2_113, m2_114, m2_117, m2_118, m2_121, m2_123, m2_124, m2_125, m2_126, m2_129, m2_131, m2_132, m2_133, m2_136, m2_139, m2_140, m3_0, m3_1, m3_4, m3_7, m3_9, m3_10, m3_11, m3_14u, m3_15, m3_16, m3_18, m3_21, m3_22, m3_23, m3_26, m3_27, m3_28, m3_29, m3_30, m3_33, m3_34, m3_37, m3_40u, m3_41, m3_42, m3_45, m3_48, m3_49, m3_50, m3_53, m3_54, m3_55, m3_58, m3_60, m3_61, m3_62, m3_63, m3_66, m3_67, m3_68, m3_69, m3_70, m3_73u, m3_74, m3_75, m3_78, m3_79, m3_80, m3_83, m3_84, m3_85, m3_88, m3_90, m3_91, m3_92, m3_93, m3_94, m3_95, m3_98, m3_99, m3_100, m3_101, m3_102, m3_105, m3_106, m3_107, m3_110, m3_111, m3_112, m3_115, m3_116, m3_117, m3_120, m3_121, m3_124, m3_125, m4_0, m4_1, m4_4, m5_0, m5_1, m5_2, m5_5, m5_8, m5_9, m5_10, m5_11, m5_14, m5_15, m5_16, m6_0, m6_1, m6_4, m6_5, m6_6, m6_9, m6_12, m6_13, m6_16, m6_17, m7_0, m7_1, m7_2, m7_5, m7_8, m7_9, m7_10, m7_11, m7_14, m7_15, m7_16, m8_0, m8_1, m8_4, m9_0, m9_1, m9_4, m10_0, m10_1u, m10_2, m10_3, m10_4, m10_7, m10_10, m10_11, m10_14, m10_15, m10_16, m10_17, m10_20, m10_21, m10_22, m10_25, m10_28, m10_29, m11_0, m11_1, m11_2, m11_5, m11_6, m11_7, m11_10, m11_13, m11_14, m11_15, m11_16, m11_17, m11_20u, m11_21, m11_22, m11_23, m11_26, m11_29, m11_30, m11_31, m11_32, m11_33, m11_34, m11_35, m12_0, m12_1u, m12_2, m12_3u, m12_5, m12_6u, m12_8, m12_10, m12_12, m12_15, m12_17, m12_20, m12_23, m12_24, m12_26, m12_27u, m12_27i, m12_27r, m12_29, m12_31i, m12_32, m12_34i, m12_36, m12_39, m12_42, m12_43, m13_0, m13_1, m13_4, m13_5, m13_6, m13_9, m13_10, m13_11, m13_14, m13_15, m13_16, m13_19, m13_20, m13_21, m13_24, m13_25, m13_26, m13_29, m13_30, m13_31, m13_34, m13_35, m13_36, m13_39, m13_40, m13_41u, m13_42, m13_43, m13_44, m13_47, m13_48, m13_51, m13_52, m13_53, m13_54, m13_55, m13_56, m13_57, m13_60, m13_61, m13_62, m13_63, m13_64, m13_67, m13_68, m13_69, m13_70, m13_71, m13_72, m13_73, m13_76, m13_77, m13_78, m13_79, m13_82, m13_85, m14_0, m14_1, m14_2, m14_5, m14_6u, m14_7, m14_8, m14_9, m14_12, m14_13, m14_14, m14_15, m14_18u, m14_18i, m14_18r, m14_19, m14_20, m14_23, m14_24, m14_25, m14_26, m14_27, m14_28, m14_29, m14_30, m14_33u, m14_33i, m14_33r, m14_35, m14_37, m14_40, m14_41, m14_42, m14_43, m14_46, m14_47, m14_49, m14_50, m14_53, m14_56, m14_57, m15_0, m15_1u, m15_2, m15_3, m15_4, m15_7, m15_8u, m15_8i, m15_8r, m15_9, m15_10u, m15_10i, m15_10r, m15_12, m15_14, m15_15, m15_18, m15_19, m15_22, m15_24, m15_25, m15_26, m15_27, m15_28, m15_29, m15_32, m15_33, m15_36, m15_38, m15_39, m15_40, m15_43, m15_44, m15_47, m15_49, m15_50i, m15_51, m15_54, m15_57, m15_58, m15_61, m15_62, m15_63, m15_64, m15_67, m15_70, m16_0, m16_1u, m16_2, m16_3, m16_6, m16_7, m16_8u, m16_10, m16_11u, m16_13, m16_15, m16_16, m16_19, m16_20, m16_23, m16_25, m16_26, m16_28, m16_31, m16_34, m16_35u, m16_35i, m16_35r, m16_37, m16_39, m16_40, m16_43, m16_44, m16_47, m16_49, m16_50, m16_51, m16_53, m16_54, m16_55u, m16_55i, m16_55r, m16_57, m16_59, m16_62, m16_63, m16_66, m16_68, m16_69, m16_71, m16_74, m16_76, m16_77, m16_80, m16_82i, m16_83, m16_86, m16_89, m16_92, m16_95, m16_96, m17_0, m17_1, m17_4, m17_5, m17_6, m17_7, m17_8u, m17_10, m17_12u, m17_14, m17_15u, m17_17, m17_19, m17_22, m17_25, m17_27, m17_28, m17_31, m17_32, m17_33, m17_36, m17_37, m17_38, m17_40, m17_41, m17_42, m17_43, m17_45, m17_48, m17_49u, m17_49i, m17_49r, m17_51, m17_53, m17_55, m17_58, m17_60, m17_61, m17_63i, m17_65, m17_68, m17_71, m17_72, m18_0, m18_1u, m18_3, m18_4, m18_7, m18_8, m18_9u, m18_11, m18_12u, m18_14, m18_16, m18_17, m18_20, m18_21, m18_24, m18_26, m18_27u, m18_27i, m18_27r, m18_29, m18_30, m18_33, m18_35, m18_36, m18_38, m18_41, m18_43, m18_46, m18_48, m18_49, m18_51, m18_52, m18_53, m18_54, m18_56, m18_57, m18_58, m18_61, m18_63, m18_64, m18_65, m18_66i, m18_68, m18_71, m18_74, m18_76, m19_0, m19_1u, m19_2, m19_3, m19_4, m19_7, m19_8, m19_11, m19_12, m19_13, m19_16, m19_17, m19_18, m19_19, m19_20, m19_23, m19_24, m19_25, m19_28, m19_29, m19_30, m19_31, m19_34, m19_37, m19_38i, m19_39, m19_40, m19_41, m19_44, m19_45, m19_48, m19_49, m19_50, m19_53, m19_54, m19_55, m19_56, m19_59, m19_62, m20_0, m20_3, m20_4, m20_5, m20_8u, m20_10, m20_11, m20_12, m20_15, m20_16, m20_19, m20_20, m20_22, m20_25, m20_27, m20_30, m20_31u, m20_33, m20_34, m20_35, m20_38, m20_39, m20_42, m20_45, m20_46, m20_47, m20_50, m20_51, m20_52, m20_55, m20_56, m20_57, m20_60, m20_61, m20_62, m20_65, m20_67u, m20_69, m20_72, m20_74, m20_75, m20_78, m20_80, m20_82, m20_85, m20_87u, m20_89, m20_92, m20_93u, m20_95, m20_97, m20_98, m20_99, m20_100, m20_102, m20_105u, m20_107, m20_109, m20_111, m20_114, m20_115, m20_116, m20_118, m20_121, m20_122, m20_125, m20_126u, m20_128, m20_130, m20_133u, m20_135, m20_137, m20_139, m20_142, m20_143, m20_146, m20_148, m20_151, m20_152, m20_153, m20_155, m20_158, m20_160, m20_163, m20_164, m20_167, m20_168, m20_171, m20_172, m20_173, m20_175, m20_176, m20_179, m20_181, m20_184, m20_185, m20_188, m20_189, m20_192, m20_193, m20_194, m20_196, m20_197, m20_200, m20_202, m20_205, m20_206, m20_209, m20_210, m20_213, m20_214, m20_215, m20_217, m20_220, m20_222, m20_225, m20_226, m20_229, m20_230, m20_233, m20_234, m20_235, m20_237, m20_240, m20_241, m20_244, m20_245, m20_246, m20_248, m20_251, m20_253, m20_256, m20_257, m20_258, m20_260, m20_261, m20_262, m20_263, m20_265, m20_268u, m20_270, m20_272, m20_275, m20_277, m20_278, m20_281, m20_282, m20_285, m20_287, m20_290, m20_292u, m20_294, m20_296, m20_298, m20_301, m20_302, m20_305, m20_306, nb0, nb1, ou_a, Option.toList_some, Option.toList_none, List.nil_append, List.cons_append, getA_set2, setA_len, inB_iff, A0g_0, A0g_1, A0g_2, A0g_3, A0g_4, A0g_5, A0g_6, A0g_7, A0g_8, A0g_9, A0g_10, A0g_11, A0g_12, A0g_13, A0g_14, A0g_15, A0g_16, A0g_17, A0g_18, A0g_19, A0l_0, A0l_1, A0l_2, A0l_3, A0l_4, A0l_5, A0l_6, A0l_7, A0l_8, A0l_9, A0l_10, A0l_11, A0l_12, A0l_13, A0l_14, A0l_15, A0l_16, A0l_17, A0l_18, A0l_19]
      refine ⟨?_, ?_⟩ <;> simp only [ou_a, setA_len, put_len, put_tot, pad_0, tot_nil, List.length_nil, List.length_cons, A0l_0, A0l_1, A0l_2, A0l_3, A0l_4, A0l_5, A0l_6, A0l_7, A0l_8, A0l_9, A0l_10, A0l_11, A0l_12, A0l_13, A0l_14, A0l_15, A0l_16, A0l_17, A0l_18, A0l_19] <;> simp [setA_len, put_len, put_tot, pad_0, tot_nil, List.length_nil, List.length_cons, A0l_0, A0l_1, A0l_2, A0l_3, A0l_4, A0l_5, A0l_6, A0l_7, A0l_8, A0l_9, A0l_10, A0l_11, A0l_12, A0l_13, A0l_14, A0l_15, A0l_16, A0l_17, A0l_18, A0l_19]
    by_cases b5 : i3 < 1
    · simp [a1, a2, b1, b2, b3, b4, b5, m0_0, m0_1, m0_4, m0_5, m0_12, m0_13, m0_20, m0_21, m0_28, m0_29, m0_36, m0_37, m0_44, m0_45, m0_52, m0_53, m0_60, m0_61, m0_68, m0_69, m0_75, m0_76, m0_82, m0_83, m0_89, m0_90, m0_96, m0_97, m0_104, m0_105, m0_112, m0_113, m0_120, m0_121, m0_128, m0_129, m0_136, m0_137, m0_144, m0_145, m0_152, m0_153, m0_160, m0_161u, m0_162, m0_163, m0_164, m0_167, m0_168i, m0_169, m0_170, m0_172, m0_175, m0_177i, m0_178, m0_179, m0_180, m0_183, m0_184, m0_185, m0_188, m0_189, m0_190, m0_193, m0_194, m0_195, m0_198, m0_199, m0_200, m0_203, m0_204u, m0_205, m0_206, m0_207, m0_210, m0_211, m0_214, m0_215, m0_216, m0_217, m0_220, m0_223, m0_224, m0_227, m1_0, m1_1, m1_2, m1_5, m1_6, m1_7, m1_10, m1_11u, m1_12, m1_13, m1_15, m1_18, m1_19, m1_22, m1_23, m1_24, m1_25, m1_26, m1_29, m1_30, m1_31, m1_32, m1_33, m1_36, m1_37, m1_38, m1_39, m1_40, m1_43, m1_44, m1_45, m1_46, m1_47, m1_50, m1_51, m1_52, m1_53, m1_54, m1_57, m1_58, m1_59, m1_60, m1_63, m1_66, m2_0, m2_1, m2_4, m2_5, m2_8, m2_11, m2_12, m2_13, m2_14, m2_15, m2_18, m2_19, m2_22, m2_25, m2_27, m2_28, m2_29, m2_30, m2_33, m2_34, m2_35, m2_38, m2_40, m2_41, m2_42, m2_43, m2_46, m2_47, m2_48, m2_51, m2_53, m2_54, m2_56, m2_57, m2_60, m2_62, m2_64, m2_67, m2_69, m2_70, m2_71, m2_73, m2_76, m2_79, m2_81, m2_82, m2_83, m2_84, m2_87, m2_88, m2_89, m2_92, m2_93, m2_94, m2_97, m2_98, m2_99, m2_102, m2_103, m2_105, m2_108, m2_109u, m2_111, m2_113, m2_114, m2_117, m2_118, m2_121, m2_123, m2_124, m2_125, m2_126, m2_129, m2_131, m2_132, m2_133, m2_136, m2_139, m2_140, m3_0, m3_1, m3_4, m3_7, m3_9, m3_10, m3_11, m3_14u, m3_15, m3_16, m3_18, m3_21, m3_22, m3_23, m3_26, m3_27, m3_28, m3_29, m3_30, m3_33, m3_34, m3_37, m3_40u, m3_41, m3_42, m3_45, m3_48, m3_49, m3_50, m3_53, m3_54, m3_55, m3_58, m3_60, m3_61, m3_62, m3_63, m3_66, m3_67, m3_68, m3_69, m3_70, m3_73u, m3_74, m3_75, m3_78, m3_79, m3_80, m3_83, m3_84, m3_85, m3_88, m3_90, m3_91, m3_92, m3_93, m3_94, m3_95, m3_98, m3_99, m3_100, m3_101, m3_102, m3_105, m3_106, m3_107, m3_110, m3_111, m3_112, m3_115, m3_116, m3_117, m3_120, m3_121, m3_124, m3_125, m4_0, m4_1, m4_4, m5_0, m5_1, m5_2, m5_5, m5_8, m5_9, m5_10, m5_11, m5_14, m5_15, m5_16, m6_0, m6_1, m6_4, m6_5, m6_6, m6_9, m6_12, m6_13, m6_16, m6_17, m7_0, m7_1, m7_2, m7_5, m7_8, m7_9, m7_10, m7_11, m7_14, m7_15, m7_16, m8_0, m8_1, m8_4, m9_0, m9_1, m9_4, m10_0, m10_1u, m10_2, m10_3, m10_4, m10_7, m10_10, m10_11, m10_14, m10_15, m10_16, m10_17, m10_20, m10_21, m10_22, m10_25, m10_28, m10_29, m11_0, m11_1, m11_2, m11_5, m11_6, m11_7, m11_10, m11_13, m11_14, m11_15, m11_16, m11_17, m11_20u, m11_21, m11_22, m11_23, m11_26, m11_29, m11_30, m11_31, m11_32, m11_33, m11_34, m11_35, m12_0, m12_1u, m12_2, m12_3u, m12_5, m12_6u, m12_8, m12_10, m12_12, m12_15, m12_17, m12_20, m12_23, m12_24, m12_26, m12_27u, m12_27i, m12_27r, m12_29, m12_31i, m12_32, m12_34i, m12_36, m12_39, m12_42, m12_43, m13_0, m13_1, m13_4, m13_5, m13_6, m13_9, m13_10, m13_11, m13_14, m13_15, m13_16, m13_19, m13_20, m13_21, m13_24, m13_25, m13_26, m13_29, m13_30, m13_31, m13_34, m13_35, m13_36, m13_39, m13_40, m13_41u, m13_42, m13_43, m13_44, m13_47, m13_48, m13_51, m13_52, m13_53, m13_54, m13_55, m13_56, m13_57, m13_60, m13_61, m13_62, m13_63, m13_64, m13_67, m13_68, m13_69, m13_70, m13_71, m13_72, m13_73, m13_76, m13_77, m13_78, m13_79, m13_82, m13_85, m14_0, m14_1, m14_2, m14_5, m14_6u, m14_7, m14_8, m14_9, m14_12, m14_13, m14_14, m14_15, m14_18u, m14_18i, m14_18r, m14_19, m14_20, m14_23, m14_24, m14_25, m14_26, m14_27, m14_28, m14_29, m14_30, m14_33u, m14_33i, m14_33r, m14_35, m14_37, m14_40, m14_41, m14_42, m14_43, m14_46, m14_47, m14_49, m14_50, m14_53, m14_56, m14_57, m15_0, m15_1u, m15_2, m15_3, m15_4, m15_7, m15_8u, m15_8i, m15_8r, m15_9, m15_10u, m15_10i, m15_10r, m15_12, m15_14, m15_15, m15_18, m15_19, m15_22, m15_24, m15_25, m15_26, m15_27, m15_28, m15_29, m15_32, m15_33, m15_36, m15_38, m15_39, m15_40, m15_43, m15_44, m15_47, m15_49, m15_50i, m15_51, m15_54, m15_57, m15_58, m15_61, m15_62, m15_63, m15_64, m15_67, m15_70, m16_0, m16_1u, m16_2, m16_3, m16_6, m16_7, m16_8u, m16_10, m16_11u, m16_13, m16_15, m16_16, m16_19, m16_20, m16_23, m16_25, m16_26, m16_28, m16_31, m16_34, m16_35u, m16_35i, m16_35r, m16_37, m16_39, m16_40, m16_43, m16_44, m16_47, m16_49, m16_50, m16_51, m16_53, m16_54, m16_55u, m16_55i, m16_55r, m16_57, m16_59, m16_62, m16_63, m16_66, m16_68, m16_69, m16_71, m16_74, m16_76, m16_77, m16_80, m16_82i, m16_83, m16_86, m16_89, m16_92, m16_95, m16_96, m17_0, m17_1, m17_4, m17_5, m17_6, m17_7, m17_8u, m17_10, m17_12u, m17_14, m17_15u, m17_17, m17_19, m17_22, m17_25, m17_27, m17_28, m17_31, m17_32, m17_33, m17_36, m17_37, m17_38, m17_40, m17_41, m17_42, m17_43, m17_45, m17_48, m17_49u, m17_49i, m17_49r, m17_51, m17_53, m17_55, m17_58, m17_60, m17_61, m17_63i, m17_65, m17_68, m17_71, m17_72, m18_0, m18_1u, m18_3, m18_4, m18_7, m18_8, m18_9u, m18_11, m18_12u, m18_14, m18_16, m18_17, m18_20, m18_21, m18_24, m18_26, m18_27u, m18_27i, m18_27r, m18_29, m18_30, m18_33, m18_35, m18_36, m18_38, m18_41, m18_43, m18_46, m18_48, m18_49, m18_51, m18_52, m18_53, m18_54, m18_56, m18_57, m18_58, m18_61, m18_63, m18_64, m18_65, m18_66i, m18_68, m18_71, m18_74, m18_76, m19_0, m19_1u, m19_2, m19_3, m19_4, m19_7, m19_8, m19_11, m19_12, m19_13, m19_16, m19_17, m19_18, m19_19, m19_20, m19_23, m19_24, m19_25, m19_28, m19_29, m19_30, m19_31, m19_34, m19_37, m19_38i, m19_39, m19_40, m19_41, m19_44, m19_45, m19_48, m19_49, m19_50, m19_53, m19_54, m19_55, m19_56, m19_59, m19_62, m20_0, m20_3, m20_4, m20_5, m20_8u, m20_10, m20_11, m20_12, m20_15, m20_16, m20_19, m20_20, m20_22, m20_25, m20_27, m20_30, m20_31u, m20_33, m20_34, m20_35, m20_38, m20_39, m20_42, m20_45, m20_46, m20_47, m20_50, m20_51, m20_52, m20_55, m20_56, m20_57, m20_60, m20_61, m20_62, m20_65, m20_67u, m20_69, m20_72, m20_74, m20_75, m20_78, m20_80, m20_82, m20_85, m20_87u, m20_89, m20_92, m20_93u, m20_95, m20_97, m20_98, m20_99, m20_100, m20_102, m20_105u, m20_107, m20_109, m20_111, m20_114, m20_115, m20_116, m20_118, m20_121, m20_122, m20_125, m20_126u, m20_128, m20_130, m20_133u, m20_135, m20_137, m20_139, m20_142, m20_143, m20_146, m20_148, m20_151, m20_152, m20_153, m20_155, m20_158, m20_160, m20_163, m20_164, m20_167, m20_168, m20_171, m20_172, m20_173, m20_175, m20_176, m20_179, m20_181, m20_184, m20_185, m20_188, m20_189, m20_192, m20_193, m20_194, m20_196, m20_197, m20_200, m20_202, m20_205, m20_206, m20_209, m20_210, m20_213, m20_214, m20_215, m20_217, m20_220, m20_222, m20_225, m20_226, m20_229, m20_230, m20_233, m20_234, m20_235, m20_237, m20_240, m20_241, m20_244, m20_245, m20_246, m20_248, m20_251, m20_253, m20_256, m20_257, m20_258, m20_260, m20_261, m20_262, m20_263, m20_265, m20_268u, m20_270, m20_272, m20_275, m20_277, m20_278, m20_281, m20_282, m20_285, m20_287, m20_290, m20_292u, m20_294, m20_296, m20_298, m20_301, m20_302, m20_305, m20_306, nb0, nb1, ou_a, Option.toList_some, Option.toList_none, List.nil_append, List.cons_append, getA_set2, setA_len, inB_iff, A0g_0, A0g_1, A0g_2, A0g_3, A0g_4, A0g_5, A0g_6, A0g_7, A0g_8, A0g_9, A0g_10, A0g_11, A0g_12, A0g_13, A0g_14, A0g_15, A0g_16, A0g_17, A0g_18, A0g_19, A0l_0, A0l_1, A0l_2, A0l_3, A0l_4, A0l_5, A0l_6, A0l_7, A0l_8, A0l_9, A0l_10, A0l_11, A0l_12, A0l_13, A0l_14, A0l_15, A0l_16, A0l_17, A0l_18, A0l_19]
      refine ⟨?_, ?_⟩ <;> simp only [ou_a, setA_len, put_len, put_tot, pad_0, tot_nil, List.length_nil, List.length_cons, A0l_0, A0l_1, A0l_2, A0l_3, A0l_4, A0l_5, A0l_6, A0l_7, A0l_8, A0l_9, A0l_10, A0l_11, A0l_12, A0l_13, A0l_14, A0l_15, A0l_16, A0l_17, A0l_18, A0l_19] <;> simp [setA_len, put_len, put_tot, pad_0, tot_nil, List.length_nil, List.length_cons, A0l_0, A0l_1, A0l_2, A0l_3, A0l_4, A0l_5, A0l_6, A0l_7, A0l_8, A0l_9, A0l_10, A0l_11, A0l_12, A0l_13, A0l_14, A0l_15, A0l_16, A0l_17, A0l_18, A0l_19]
    by_cases b6 : i2 < i3
    · simp [a1, a2, b1, b2, b3, b4, b5, b6, m0_0, m0_1, m0_4, m0_5, m0_12, m0_13, m0_20, m0_21, m0_28, m0_29, m0_36, m0_37, m0_44, m0_45, m0_52, m0_53, m0_60, m0_61, m0_68, m0_69, m0_75, m0_76, m0_82, m0_83, m0_89, m0_90, m0_96, m0_97, m0_104, m0_105, m0_112, m0_113, m0_120, m0_121, m0_128, m0_129, m0_136, m0_137, m0_144, m0_145, m0_152, m0_153, m0_160, m0_161u, m0_162, m0_163, m0_164, m0_167, m0_168i, m0_169, m0_170, m0_172, m0_175, m0_177i, m0_178, m0_179, m0_180, m0_183, m0_184, m0_185, m0_188, m0_189, m0_190, m0_193, m0_194, m0_195, m0_198, m0_199, m0_200, m0_203, m0_204u, m0_205, m0_206, m0_207, m0_210, m0_211, m0_214, m0_215, m0_216, m0_217, m0_220, m0_223, m0_224, m0_227, m1_0, m1_1, m1_2, m1_5, m1_6, m1_7, m1_10, m1_11u, m1_12, m1_13, m1_15, m1_18, m1_19, m1_22, m1_23, m1_24, m1_25, m1_26, m1_29, m1_30, m1_31, m1_32, m1_33, m1_36, m1_37, m1_38, m1_39, m1_40, m1_43, m1_44, m1_45, m1_46, m1_47, m1_50, m1_51, m1_52, m1_53, m1_54, m1_57, m1_58, m1_59, m1_60, m1_63, m1_66, m2_0, m2_1, m2_4, m2_5, m2_8, m2_11, m2_12, m2_13, m2_14, m2_15, m2_18, m2_19, m2_22, m2_25, m2_27, m2_28, m2_29, m2_30, m2_33, m2_34, m2_35, m2_38, m2_40, m2_41, m2_42, m2_43, m2_46, m2_47, m2_48, m2_51, m2_53, m2_54, m2_56, m2_57, m2_60, m2_62, m2_64, m2_67, m2_69, m2_70, m2_71, m2_73, m2_76, m2_79, m2_81, m2_82, m2_83, m2_84, m2_87, m2_88, m2_89, m2_92, m2_93, m2_94, m2_97, m2_98, m2_99, m2_102, m2_103, m2_105, m2_108, m2_109u, m2_111, m2_113, m2_114, m2_117, m2_118, m2_121, m2_123, m2_124, m2_125, m2_126, m2_129, m2_131, m2_132, m2_133, m2_136, m2_139, m2_140, m3_0, m3_1, m3_4, m3_7, m3_9, m3_10, m3_11, m3_14u, m3_15, m3_16, m3_18, m3_21, m3_22, m3_23, m3_26, m3_27, m3_28, m3_29, m3_30, m3_33, m3_34, m3_37, m3_40u, m3_41, m3_42, m3_45, m3_48, m3_49, m3_50, m3_53, m3_54, m3_55, m3_58, m3_60, m3_61, m3_62, m3_63, m3_66, m3_67, m3_68, m3_69, m3_70, m3_73u, m3_74, m3_75, m3_78, m3_79, m3_80, m3_83, m3_84, m3_85, m3_88, m3_90, m3_91, m3_92, m3_93, m3_94, m3_95, m3_98, m3_99, m3_100, m3_101, m3_102, m3_105, m3_106, m3_107, m3_110, m3_111, m3_112, m3_115, m3_116, m3_117, m3_120, m3_121, m3_124, m3_125, m4_0, m4_1, m4_4, m5_0, m5_1, m5_2, m5_5, m5_8, m5_9, m5_10, m5_11, m5_14, m5_15, m5_16, m6_0, m6_1, m6_4, m6_5, m6_6, m6_9, m6_12, m6_13, m6_16, m6_17, m7_0, m7_1, m7_2, m7_5, m7_8, m7_9, m7_10, m7_11, m7_14, m7_15, m7_16, m8_0, m8_1, m8_4, m9_0, m9_1, m9_4, m10_0, m10_1u, m10_2, m10_3, m10_4, m10_7, m10_10, m10_11, m10_14, m10_15, m10_16, m10_17, m10_20, m10_21, m10_22, m10_25, m10_28, m10_29, m11_0, m11_1, m11_2, m11_5, m11_6, m11_7, m11_10, m11_13, m11_14, m11_15, m11_16, m11_17, m11_20u, m11_21, m11_22, m11_23, m11_26, m11_29, m11_30, m11_31, m11_32, m11_33, m11_34, m11_35, m12_0, m12_1u, m12_2, m12_3u, m12_5, m12_6u, m12_8, m12_10, m12_12, m12_15, m12_17, m12_20, m12_23, m12_24, m12_26, m12_27u, m12_27i, m12_27r, m12_29, m12_31i, m12_32, m12_34i, m12_36, m12_39, m12_42, m12_43, m13_0, m13_1, m13_4, m13_5, m13_6, m13_9, m13_10, m13_11, m13_14, m13_15, m13_16, m13_19, m13_20, m13_21, m13_24, m13_25, m13_26, m13_29, m13_30, m13_31, m13_34, m13_35, m13_36, m13_39, m13_40, m13_41u, m13_42, m13_43, m13_44, m13_47, m13_48, m13_51, m13_52, m13_53, m13_54, m13_55, m13_56, m13_57, m13_60, m13_61, m13_62, m13_63, m13_64, m13_67, m13_68, m13_69, m13_70, m13_71, m13_72, m13_73, m13_76, m13_77, m13_78, m13_79, m13_82, m13_85, m14_0, m14_1, m14_2, m14_5, m14_6u, m14_7, m14_8, m14_9, m14_12, m14_13, m14_14, m14_15, m14_18u, m14_18i, m14_18r, m14_19, m14_20, m14_23, m14_24, m14_25, m14_26, m14_27, m14_28, m14_29, m14_30, m14_33u, m14_33i, m14_33r, m14_35, m14_37, m14_40, m14_41, m14_42, m14_43, m14_46, m14_47, m14_49, m14_50, m14_53, m14_56, m14_57, m15_0, m15_1u, m15_2, m15_3, m15_4, m15_7, m15_8u, m15_8i, m15_8r, m15_9, m15_10u, m15_10i, m15_10r, m15_12, m15_14, m15_15, m15_18, m15_19, m15_22, m15_24, m15_25, m15_26, m15_27, m15_28, m15_29, m15_32, m15_33, m15_36, m15_38, m15_39, m15_40, m15_43, m15_44, m15_47, m15_49, m15_50i, m15_51, m15_54, m15_57, m15_58, m15_61, m15_62, m15_63, m15_64, m15_67, m15_70, m16_0, m16_1u, m16_2, m16_3, m16_6, m16_7, m16_8u, m16_10, m16_11u, m16_13, m16_15, m16_16, m16_19, m16_20, m16_23, m16_25, m16_26, m16_28, m16_31, m16_34, m16_35u, m16_35i, m16_35r, m16_37, m16_39, m16_40, m16_43, m16_44, m16_47, m16_49, m16_50, m16_51, m16_53, m16_54, m16_55u, m16_55i, m16_55r, m16_57, m16_59, m16_62, m16_63, m16_66, m16_68, m16_69, m16_71, m16_74, m16_76, m16_77, m16_80, m16_82i, m16_83, m16_86, m16_89, m16_92, m16_95, m16_96, m17_0, m17_1, m17_4, m17_5, m17_6, m17_7, m17_8u, m17_10, m17_12u, m17_14, m17_15u, m17_17, m17_19, m17_22, m17_25, m17_27, m17_28, m17_31, m17_32, m17_33, m17_36, m17_37, m17_38, m17_40, m17_41, m17_42, m17_43, m17_45, m17_48, m17_49u, m17_49i, m17_49r, m17_51, m17_53, m17_55, m17_58, m17_60, m17_61, m17_63i, m17_65, m17_68, m17_71, m17_72, m18_0, m18_1u, m18_3, m18_4, m18_7, m18_8, m18_9u, m18_11, m18_12u, m18_14, m18_16, m18_17, m18_20, m18_21, m18_24, m18_26, m18_27u, m18_27i, m18_27r, m18_29, m18_30, m18_33, m18_35, m18_36, m18_38, m18_41, m18_43, m18_46, m18_48, m18_49, m18_51, m18_52, m18_53, m18_54, m18_56, m18_57, m18_58, m18_61, m18_63, m18_64, m18_65, m18_66i, m18_68, m18_71, m18_74, m18_76, m19_0, m19_1u, m19_2, m19_3, m19_4, m19_7, m19_8, m19_11, m19_12, m19_13, m19_16, m19_17, m19_18, m19_19, m19_20, m19_23, m19_24, m19_25, m19_28, m19_29, m19_30, m19_31, m19_34, m19_37, m19_38i, m19_39, m19_40, m19_41, m19_44, m19_45, m19_48, m19_49, m19_50, m19_53, m19_54, m19_55, m19_56, m19_59, m19_62, m20_0, m20_3, m20_4, m20_5, m20_8u, m20_10, m20_11, m20_12, m20_15, m20_16, m20_19, m20_20, m20_22, m20_25, m20_27, m20_30, m20_31u, m20_33, m20_34, m20_35, m20_38, m20_39, m20_42, m20_45, m20_46, m20_47, m20_50, m20_51, m20_52, m20_55, m20_56, m20_57, m20_60, m20_61, m20_62, m20_65, m20_67u, m20_69, m20_72, m20_74, m20_75, m20_78, m20_80, m20_82, m20_85, m20_87u, m20_89, m20_92, m20_93u, m20_95, m20_97, m20_98, m20_99, m20_100, m20_102, m20_105u, m20_107, m20_109, m20_111, m20_114, m20_115, m20_116, m20_118, m20_121, m20_122, m20_125, m20_126u, m20_128, m20_130, m20_133u, m20_135, m20_137, m20_139, m20_142, m20_143, m20_146, m20_148, m20_151, m20_152, m20_153, m20_155, m20_158, m20_160, m20_163, m20_164, m20_167, m20_168, m20_171, m20_172, m20_173, m20_175, m20_176, m20_179, m20_181, m20_184, m20_185, m20_188, m20_189, m20_192, m20_193, m20_194, m20_196, m20_197, m20_200, m20_202, m20_205, m20_206, m20_209, m20_210, m20_213, m20_214, m20_215, m20_217, m20_220, m20_222, m20_225, m20_226, m20_229, m20_230, m20_233, m20_234, m20_235, m20_237, m20_240, m20_241, m20_244, m20_245, m20_246, m20_248, m20_251, m20_253, m20_256, m20_257, m20_258, m20_260, m20_261, m20_262, m20_263, m20_265, m20_268u, m20_270, m20_272, m20_275, m20_277, m20_278, m20_281, m20_282, m20_285, m20_287, m20_290, m20_292u, m20_294, m20_296, m20_298, m20_301, m20_302, m20_305, m20_306, nb0, nb1, ou_a, Option.toList_some, Option.toList_none, List.nil_append, List.cons_append, getA_set2, setA_len, inB_iff, A0g_0, A0g_1, A0g_2, A0g_3, A0g_4, A0g_5, A0g_6, A0g_7, A0g_8, A0g_9, A0g_10, A0g_11, A0g_12, A0g_13, A0g_14, A0g_15, A0g_16, A0g_17, A0g_18, A0g_19, A0l_0, A0l_1, A0l_2, A0l_3, A0l_4, A0l_5, A0l_6, A0l_7, A0l_8, A0l_9, A0l_10, A0l_11, A0l_12, A0l_13, A0l_14, A0l_15, A0l_16, A0l_17, A0l_18, A0l_19]
      refine ⟨?_, ?_⟩ <;> simp only [ou_a, setA_len, put_len, put_tot, pad_0, tot_nil, List.length_nil, List.length_cons, A0l_0, A0l_1, A0l_2, A0l_3, A0l_4, A0l_5, A0l_6, A0l_7, A0l_8, A0l_9, A0l_10, A0l_11, A0l_12, A0l_13, A0l_14, A0l_15, A0l_16, A0l_17, A0l_18, A0l_19] <;> simp [setA_len, put_len, put_tot, pad_0, tot_nil, List.length_nil, List.length_cons, A0l_0, A0l_1, A0l_2, A0l_3, A0l_4, A0l_5, A0l_6, A0l_7, A0l_8, A0l_9, A0l_10, A0l_11, A0l_12, A0l_13, A0l_14, A0l_15, A0l_16, A0l_17, A0l_18, A0l_19]
    by_cases b7 : i4 < 1
    · simp [a1, a2, b1, b2, b3, b4, b5, b6, b7, m0_0, m0_1, m0_4, m0_5, m0_12, m0_13, m0_20, m0_21, m0_28, m0_29, m0_36, m0_37, m0_44, m0_45, m0_52, m0_53, m0_60, m0_61, m0_68, m0_69, m0_75, m0_76, m0_82, m0_83, m0_89, m0_90, m0_96, m0_97, m0_104, m0_105, m0_112, m0_113, m0_120, m0_121, m0_128, m0_129, m0_136, m0_137, m0_144, m0_145, m0_152, m0_153, m0_160, m0_161u, m0_162, m0_163, m0_164, m0_167, m0_168i, m0_169, m0_170, m0_172, m0_175, m0_177i, m0_178, m0_179, m0_180, m0_183, m0_184, m0_185, m0_188, m0_189, m0_190, m0_193, m0_194, m0_195, m0_198, m0_199, m0_200, m0_203, m0_204u, m0_205, m0_206, m0_207, m0_210, m0_211, m0_214, m0_215, m0_216, m0_217, m0_220, m0_223, m0_224, m0_227, m1_0, m1_1, m1_2, m1_5, m1_6, m1_7, m1_10, m1_11u, m1_12, m1_13, m1_15, m1_18, m1_19, m1_22, m1_23, m1_24, m1_25, m1_26, m1_29, m1_30, m1_31, m1_32, m1_33, m1_36, m1_37, m1_38, m1_39, m1_40, m1_43, m1_44, m1_45, m1_46, m1_47, m1_50, m1_51, m1_52, m1_53, m1_54, m1_57, m1_58, m1_59, m1_60, m1_63, m1_66, m2_0, m2_1, m2_4, m2_5, m2_8, m2_11, m2_12, m2_13, m2_14, m2_15, m2_18, m2_19, m2_22, m2_25, m2_27, m2_28, m2_29, m2_30, m2_33, m2_34, m2_35, m2_38, m2_40, m2_41, m2_42, m2_43, m2_46, m2_47, m2_48, m2_51, m2_53, m2_54, m2_56, m2_57, m2_60, m2_62, m2_64, m2_67, m2_69, m2_70, m2_71, m2_73, m2_76, m2_79, m2_81, m2_82, m2_83, m2_84, m2_87, m2_88, m2_89, m2_92, m2_93, m2_94, m2_97, m2_98, m2_99, m2_102, m2_103, m2_105, m2_108, m2_109u, m2_111, m2_113, m2_114, m2_117, m2_118, m2_121, m2_123, m2_124, m2_125, m2_126, m2_129, m2_131, m2_132, m2_133, m2_136, m2_139, m2_140, m3_0, m3_1, m3_4, m3_7, m3_9, m3_10, m3_11, m3_14u, m3_15, m3_16, m3_18, m3_21, m3_22, m3_23, m3_26, m3_27, m3_28, m3_29, m3_30, m3_33, m3_34, m3_37, m3_40u, m3_41, m3_42, m3_45, m3_48, m3_49, m3_50, m3_53, m3_54, m3_55, m3_58, m3_60, m3_61, m3_62, m3_63, m3_66, m3_67, m3_68, m3_69, m3_70, m3_73u, m3_74, m3_75, m3_78, m3_79, m3_80, m3_83, m3_84, m3_85, m3_88, m3_90, m3_91, m3_92, m3_93, m3_94, m3_95, m3_98, m3_99, m3_100, m3_101, m3_102, m3_105, m3_106, m3_107, m3_110, m3_111, m3_112, m3_115, m3_116, m3_117, m3_120, m3_121, m3_124, m3_125, m4_0, m4_1, m4_4, m5_0, m5_1, m5_2, m5_5, m5_8, m5_9, m5_10, m5_11, m5_14, m5_15, m5_16, m6_0, m6_1, m6_4, m6_5, m6_6, m6_9, m6_12, m6_13, m6_16, m6_17, m7_0, m7_1, m7_2, m7_5, m7_8, m7_9, m7_10, m7_11, m7_14, m7_15, m7_16, m8_0, m8_1, m8_4, m9_0, m9_1, m9_4, m10_0, m10_1u, m10_2, m10_3, m10_4, m10_7, m10_10, m10_11, m10_14, m10_15, m10_16, m10_17, m10_20, m10_21, m10_22, m10_25, m10_28, m10_29, m11_0, m11_1, m11_2, m11_5, m11_6, m11_7, m11_10, m11_13, m11_14, m11_15, m11_16, m11_17, m11_20u, m11_21, m11_22, m11_23, m11_26, m11_29, m11_30, m11_31, m11_32, m11_33, m11_34, m11_35, m12_0, m12_1u, m12_2, m12_3u, m12_5, m12_6u, m12_8, m12_10, m12_12, m12_15, m12_17, m12_20, m12_23, m12_24, m12_26, m12_27u, m12_27i, m12_27r, m12_29, m12_31i, m12_32, m12_34i, m12_36, m12_39, m12_42, m12_43, m13_0, m13_1, m13_4, m13_5, m13_6, m13_9, m13_10, m13_11, m13_14, m13_15, m13_16, m13_19, m13_20, m13_21, m13_24, m13_25, m13_26, m13_29, m13_30, m13_31, m13_34, m13_35, m13_36, m13_39, m13_40, m13_41u, m13_42, m13_43, m13_44, m13_47, m13_48, m13_51, m13_52, m13_53, m13_54, m13_55, m13_56, m13_57, m13_60, m13_61, m13_62, m13_63, m13_64, m13_67, m13_68, m13_69, m13_70, m13_71, m13_72, m13_73, m13_76, m13_77, m13_78, m13_79, m13_82, m13_85, m14_0, m14_1, m14_2, m14_5, m14_6u, m14_7, m14_8, m14_9, m14_12, m14_13, m14_14, m14_15, m14_18u, m14_18i, m14_18r, m14_19, m14_20, m14_23, m14_24, m14_25, m14_26, m14_27, m14_28, m14_29, m14_30, m14_33u, m14_33i, m14_33r, m14_35, m14_37, m14_40, m14_41, m14_42, m14_43, m14_46, m14_47, m14_49, m14_50, m14_53, m14_56, m14_57, m15_0, m15_1u, m15_2, m15_3, m15_4, m15_7, m15_8u, m15_8i, m15_8r, m15_9, m15_10u, m15_10i, m15_10r, m15_12, m15_14, m15_15, m15_18, m15_19, m15_22, m15_24, m15_25, m15_26, m15_27, m15_28, m15_29, m15_32, m15_33, m15_36, m15_38, m15_39, m15_40, m15_43, m15_44, m15_47, m15_49, m15_50i, m15_51, m15_54, m15_57, m15_58, m15_61, m15_62, m15_63, m15_64, m15_67, m15_70, m16_0, m16_1u, m16_2, m16_3, m16_6, m16_7, m16_8u, m16_10, m16_11u, m16_13, m16_15, m16_16, m16_19, m16_20, m16_23, m16_25, m16_26, m16_28, m16_31, m16_34, m16_35u, m16_35i, m16_35r, m16_37, m16_39, m16_40, m16_43, m16_44, m16_47, m16_49, m16_50, m16_51, m16_53, m16_54, m16_55u, m16_55i, m16_55r, m16_57, m16_59, m16_62, m16_63, m16_66, m16_68, m16_69, m16_71, m16_74, m16_76, m16_77, m16_80, m16_82i, m16_83, m16_86, m16_89, m16_92, m16_95, m16_96, m17_0, m17_1, m17_4, m17_5, m17_6, m17_7, m17_8u, m17_10, m17_12u, m17_14, m17_15u, m17_17, m17_19, m17_22, m17_25, m17_27, m17_28, m17_31, m17_32, m17_33, m17_36, m17_37, m17_38, m17_40, m17_41, m17_42, m17_43, m17_45, m17_48, m17_49u, m17_49i, m17_49r, m17_51, m17_53, m17_55, m17_58, m17_60, m17_61, m17_63i, m17_65, m17_68, m17_71, m17_72, m18_0, m18_1u, m18_3, m18_4, m18_7, m18_8, m18_9u, m18_11, m18_12u, m18_14, m18_16, m18_17, m18_20, m18_21, m18_24, m18_26, m18_27u, m18_27i, m18_27r, m18_29, m18_30, m18_33, m18_35, m18_36, m18_38, m18_41, m18_43, m18_46, m18_48, m18_49, m18_51, m18_52, m18_53, m18_54, m18_56, m18_57, m18_58, m18_61, m18_63, m18_64, m18_65, m18_66i, m18_68, m18_71, m18_74, m18_76, m19_0, m19_1u, m19_2, m19_3, m19_4, m19_7, m19_8, m19_11, m19_12, m19_13, m19_16, m19_17, m19_18, m19_19, m19_20, m19_23, m19_24, m19_25, m19_28, m19_29, m19_30, m19_31, m19_34, m19_37, m19_38i, m19_39, m19_40, m19_41, m19_44, m19_45, m19_48, m19_49, m19_50, m19_53, m19_54, m19_55, m19_56, m19_59, m19_62, m20_0, m20_3, m20_4, m20_5, m20_8u, m20_10, m20_11, m20_12, m20_15, m20_16, m20_19, m20_20, m20_22, m20_25, m20_27, m20_30, m20_31u, m20_33, m20_34, m20_35, m20_38, m20_39, m20_42, m20_45, m20_46, m20_47, m20_50, m20_51, m20_52, m20_55, m20_56, m20_57, m20_60, m20_61, m20_62, m20_65, m20_67u, m20_69, m20_72, m20_74, m20_75, m20_78, m20_80, m20_82, m20_85, m20_87u, m20_89, m20_92, m20_93u, m20_95, m20_97, m20_98, m20_99, m20_100, m20_102, m20_105u, m20_107, m20_109, m20_111, m20_114, m20_115, m20_116, m20_118, m20_121, m20_122, m20_125, m20_126u, m20_128, m20_130, m20_133u, m20_135, m20_137, m20_139, m20_142, m20_143, m20_146, m20_148, m20_151, m20_152, m20_153, m20_155, m20_158, m20_160, m20_163, m20_164, m20_167, m20_168, m20_171, m20_172, m20_173, m20_175, m20_176, m20_179, m20_181, m20_184, m20_185, m20_188, m20_189, m20_192, m20_193, m20_194, m20_196, m20_197, m20_200, m20_202, m20_205, m20_206, m20_209, m20_210, m20_213, m20_214, m20_215, m20_217, m20_220, m20_222, m20_225, m20_226, m20_229, m20_230, m20_233, m20_234, m20_235, m20_237, m20_240, m20_241, m20_244, m20_245, m20_246, m20_248, m20_251, m20_253, m20_256, m20_257, m20_258, m20_260, m20_261, m20_262, m20_263, m20_265, m20_268u, m20_270, m20_272, m20_275, m20_277, m20_278, m20_281, m20_282, m20_285, m20_287, m20_290, m20_292u, m20_294, m20_296, m20_298, m20_301, m20_302, m20_305, m20_306, nb0, nb1, ou_a, Option.toList_some, Option.toList_none, List.nil_append, List.cons_append, getA_set2, setA_len, inB_iff, A0g_0, A0g_1, A0g_2, A0g_3, A0g_4, A0g_5, A0g_6, A0g_7, A0g_8, A0g_9, A0g_10, A0g_11, A0g_12, A0g_13, A0g_14, A0g_15, A0g_16, A0g_17, A0g_18, A0g_19, A0l_0, A0l_1, A0l_2, A0l_3, A0l_4, A0l_5, A0l_6, A0l_7, A0l_8, A0l_9, A0l_10, A0l_11, A0l_12, A0l_13, A0l_14, A0l_15, A0l_16, A0l_17, A0l_18, A0l_19]
      refine ⟨?_, ?_⟩ <;> simp only [ou_a, setA_len, put_len, put_tot, pad_0, tot_nil, List.length_nil, List.length_cons, A0l_0, A0l_1, A0l_2, A0l_3, A0l_4, A0l_5, A0l_6, A0l_7, A0l_8, A0l_9, A0l_10, A0l_11, A0l_12, A0l_13, A0l_14, A0l_15, A0l_16, A0l_17, A0l_18, A0l_19] <;> simp [setA_len, put_len, put_tot, pad_0, tot_nil, List.length_nil, List.length_cons, A0l_0, A0l_1, A0l_2, A0l_3, A0l_4, A0l_5, A0l_6, A0l_7, A0l_8, A0l_9, A0l_10, A0l_11, A0l_12, A0l_13, A0l_14, A0l_15, A0l_16, A0l_17, A0l_18, A0l_19]
    by_cases b8 : 63 < i4
    · simp [a1, a2, b1, b2, b3, b4, b5, b6, b7, b8, m0_0, m0_1, m0_4, m0_5, m0_12, m0_13, m0_20, m0_21, m0_28, m0_29, m0_36, m0_37, m0_44, m0_45, m0_52, m0_53, m0_60, m0_61, m0_68, m0_69, m0_75, m0_76, m0_82, m0_83, m0_89, m0_90, m0_96, m0_97, m0_104, m0_105, m0_112, m0_113, m0_120, m0_121, m0_128, m0_129, m0_136, m0_137, m0_144, m0_145, m0_152, m0_153, m0_160, m0_161u, m0_162, m0_163, m0_164, m0_167, m0_168i, m0_169, m0_170, m0_172, m0_175, m0_177i, m0_178, m0_179, m0_180, m0_183, m0_184, m0_185, m0_188, m0_189, m0_190, m0_193, m0_194, m0_195, m0_198, m0_199, m0_200, m0_203, m0_204u, m0_205, m0_206, m0_207, m0_210, m0_211, m0_214, m0_215, m0_216, m0_217, m0_220, m0_223, m0_224, m0_227, m1_0, m1_1, m1_2, m1_5, m1_6, m1_7, m1_10, m1_11u, m1_12, m1_13, m1_15, m1_18, m1_19, m1_22, m1_23, m1_24, m1_25, m1_26, m1_29, m1_30, m1_31, m1_32, m1_33, m1_36, m1_37, m1_38, m1_39, m1_40, m1_43, m1_44, m1_45, m1_46, m1_47, m1_50, m1_51, m1_52, m1_53, m1_54, m1_57, m1_58, m1_59, m1_60, m1_63, m1_66, m2_0, m2_1, m2_4, m2_5, m2_8, m2_11, m2_12, m2_13, m2_14, m2_15, m2_18, m2_19, m2_22, m2_25, m2_27, m2_28, m2_29, m2_30, m2_33, m2_34, m2_35, m2_38, m2_40, m2_41, m2_42, m2_43, m2_46, m2_47, m2_48, m2_51, m2_53, m2_54, m2_56, m2_57, m2_60, m2_62, m2_64, m2_67, m2_69, m2_70, m2_71, m2_73, m2_76, m2_79, m2_81, m2_82, m2_83, m2_84, m2_87, m2_88, m2_89, m2_92, m2_93, m2_94, m2_97, m2_98, m2_99, m2_102, m2_103, m2_105, m2_108, m2_109u, m2_111, m2_113, m2_114, m2_117, m2_118, m2_121, m2_123, m2_124, m2_125, m2_126, m2_129, m2_131, m2_132, m2_133, m2_136, m2_139, m2_140, m3_0, m3_1, m3_4, m3_7, m3_9, m3_10, m3_11, m3_14u, m3_15, m3_16, m3_18, m3_21, m3_22, m3_23, m3_26, m3_27, m3_28, m3_29, m3_30, m3_33, m3_34, m3_37, m3_40u, m3_41, m3_42, m3_45, m3_48, m3_49, m3_50, m3_53, m3_54, m3_55, m3_58, m3_60, m3_61, m3_62, m3_63, m3_66, m3_67, m3_68, m3_69, m3_70, m3_73u, m3_74, m3_75, m3_78, m3_79, m3_80, m3_83, m3_84, m3_85, m3_88, m3_90, m3_91, m3_92, m3_93, m3_94, m3_95, m3_98, m3_99, m3_100, m3_101, m3_102, m3_105, m3_106, m3_107, m3_110, m3_111, m3_112, m3_115, m3_116, m3_117, m3_120, m3_121, m3_124, m3_125, m4_0, m4_1, m4_4, m5_0, m5_1, m5_2, m5_5, m5_8, m5_9, m5_10, m5_11, m5_14, m5_15, m5_16, m6_0, m6_1, m6_4, m6_5, m6_6, m6_9, m6_12, m6_13, m6_16, m6_17, m7_0, m7_1, m7_2, m7_5, m7_8, m7_9, m7_10, m7_11, m7_14, m7_15, m7_16, m8_0, m8_1, m8_4, m9_0, m9_1, m9_4, m10_0, m10_1u, m10_2, m10_3, m10_4, m10_7, m10_10, m10_11, m10_14, m10_15, m10_16, m10_17, m10_20, m10_21, m10_22, m10_25, m10_28, m10_29, m11_0, m11_1, m11_2, m11_5, m11_6, m11_7, m11_10, m11_13, m11_14, m11_15, m11_16, m11_17, m11_20u, m11_21, m11_22, m11_23, m11_26, m11_29, m11_30, m11_31, m11_32, m11_33, m11_34, m11_35, m12_0, m12_1u, m12_2, m12_3u, m12_5, m12_6u, m12_8, m12_10, m12_12, m12_15, m12_17, m12_20, m12_23, m12_24, m12_26, m12_27u, m12_27i, m12_27r, m12_29, m12_31i, m12_32, m12_34i, m12_36, m12_39, m12_42, m12_43, m13_0, m13_1, m13_4, m13_5, m13_6, m13_9, m13_10, m13_11, m13_14, m13_15, m13_16, m13_19, m13_20, m13_21, m13_24, m13_25, m13_26, m13_29, m13_30, m13_31, m13_34, m13_35, m13_36, m13_39, m13_40, m13_41u, m13_42, m13_43, m13_44, m13_47, m13_48, m13_51, m13_52, m13_53, m13_54, m13_55, m13_56, m13_57, m13_60, m13_61, m13_62, m13_63, m13_64, m13_67, m13_68, m13_69, m13_70, m13_71, m13_72, m13_73, m13_76, m13_77, m13_78, m13_79, m13_82, m13_85, m14_0, m14_1, m14_2, m14_5, m14_6u, m14_7, m14_8, m14_9, m14_12, m14_13, m14_14, m14_15, m14_18u, m14_18i, m14_18r, m14_19, m14_20, m14_23, m14_24, m14_25, m14_26, m14_27, m14_28, m14_29, m14_30, m14_33u, m14_33i, m14_33r, m14_35, m14_37, m14_40, m14_41, m14_42, m14_43, m14_46, m14_47, m14_49, m14_50, m14_53, m14_56, m14_57, m15_0, m15_1u, m15_2, m15_3, m15_4, m15_7, m15_8u, m15_8i, m15_8r, m15_9, m15_10u, m15_10i, m15_10r, m15_12, m15_14, m15_15, m15_18, m15_19, m15_22, m15_24, m15_25, m15_26, m15_27, m15_28, m15_29, m15_32, m15_33, m15_36, m15_38, m15_39, m15_40, m15_43, m15_44, m15_47, m15_49, m15_50i, m15_51, m15_54, m15_57, m15_58, m15_61, m15_62, m15_63, m15_64, m15_67, m15_70, m16_0, m16_1u, m16_2, m16_3, m16_6, m16_7, m16_8u, m16_10, m16_11u, m16_13, m16_15, m16_16, m16_19, m16_20, m16_23, m16_25, m16_26, m16_28, m16_31, m16_34, m16_35u, m16_35i, m16_35r, m16_37, m16_39, m16_40, m16_43, m16_44, m16_47, m16_49, m16_50, m16_51, m16_53, m16_54, m16_55u, m16_55i, m16_55r, m16_57, m16_59, m16_62, m16_63, m16_66, m16_68, m16_69, m16_71, m16_74, m16_76, m16_77, m16_80, m16_82i, m16_83, m16_86, m16_89, m16_92, m16_95, m16_96, m17_0, m17_1, m17_4, m17_5, m17_6, m17_7, m17_8u, m17_10, m17_12u, m17_14, m17_15u, m17_17, m17_19, m17_22, m17_25, m17_27, m17_28, m17_31, m17_32, m17_33, m17_36, m17_37, m17_38, m17_40, m17_41, m17_42, m17_43, m17_45, m17_48, m17_49u, m17_49i, m17_49r, m17_51, m17_53, m17_55, m17_58, m17_60, m17_61, m17_63i, m17_65, m17_68, m17_71, m17_72, m18_0, m18_1u, m18_3, m18_4, m18_7, m18_8, m18_9u, m18_11, m18_12u, m18_14, m18_16, m18_17, m18_20, m18_21, m18_24, m18_26, m18_27u, m18_27i, m18_27r, m18_29, m18_30, m18_33, m18_35, m18_36, m18_38, m18_41, m18_43, m18_46, m18_48, m18_49, m18_51, m18_52, m18_53, m18_54, m18_56, m18_57, m18_58, m18_61, m18_63, m18_64, m18_65, m18_66i, m18_68, m18_71, m18_74, m18_76, m19_0, m19_1u, m19_2, m19_3, m19_4, m19_7, m19_8, m19_11, m19_12, m19_13, m19_16, m19_17, m19_18, m19_19, m19_20, m19_23, m19_24, m19_25, m19_28, m19_29, m19_30, m19_31, m19_34, m19_37, m19_38i, m19_39, m19_40, m19_41, m19_44, m19_45, m19_48, m19_49, m19_50, m19_53, m19_54, m19_55, m19_56, m19_59, m19_62, m20_0, m20_3, m20_4, m20_5, m20_8u, m20_10, m20_11, m20_12, m20_15, m20_16, m20_19, m20_20, m20_22, m20_25, m20_27, m20_30, m20_31u, m20_33, m20_34, m20_35, m20_38, m20_39, m20_42, m20_45, m20_46, m20_47, m20_50, m20_51, m20_52, m20_55, m20_56, m20_57, m20_60, m20_61, m20_62, m20_65, m20_67u, m20_69, m20_72, m20_74, m20_75, m20_78, m20_80, m20_82, m20_85, m20_87u, m20_89, m20_92, m20_93u, m20_95, m20_97, m20_98, m20_99, m20_100, m20_102, m20_105u, m20_107, m20_109, m20_111, m20_114, m20_115, m20_116, m20_118, m20_121, m20_122, m20_125, m20_126u, m20_128, m20_130, m20_133u, m20_135, m20_137, m20_139, m20_142, m20_143, m20_146, m20_148, m20_151, m20_152, m20_153, m20_155, m20_158, m20_160, m20_163, m20_164, m20_167, m20_168, m20_171, m20_172, m20_173, m20_175, m20_176, m20_179, m20_181, m20_184, m20_185, m20_188, m20_189, m20_192, m20_193, m20_194, m20_196, m20_197, m20_200, m20_202, m20_205, m20_206, m20_209, m20_210, m20_213, m20_214, m20_215, m20_217, m20_220, m20_222, m20_225, m20_226, m20_229, m20_230, m20_233, m20_234, m20_235, m20_237, m20_240, m20_241, m20_244, m20_245, m20_246, m20_248, m20_251, m20_253, m20_256, m20_257, m20_258, m20_260, m20_261, m20_262, m20_263, m20_265, m20_268u, m20_270, m20_272, m20_275, m20_277, m20_278, m20_281, m20_282, m20_285, m20_287, m20_290, m20_292u, m20_294, m20_296, m20_298, m20_301, m20_302, m20_305, m20_306, nb0, nb1, ou_a, Option.toList_some, Option.toList_none, List.nil_append, List.cons_append, getA_set2, setA_len, inB_iff, A0g_0, A0g_1, A0g_2, A0g_3, A0g_4, A0g_5, A0g_6, A0g_7, A0g_8, A0g_9, A0g_10, A0g_11, A0g_12, A0g_13, A0g_14, A0g_15, A0g_16, A0g_17, A0g_18, A0g_19, A0l_0, A0l_1, A0l_2, A0l_3, A0l_4, A0l_5, A0l_6, A0l_7, A0l_8, A0l_9, A0l_10, A0l_11, A0l_12, A0l_13, A0l_14, A0l_15, A0l_16, A0l_17, A0l_18, A0l_19]
      refine ⟨?_, ?_⟩ <;> simp only [ou_a, setA_len, put_len, put_tot, pad_0, tot_nil, List.length_nil, List.length_cons, A0l_0, A0l_1, A0l_2, A0l_3, A0l_4, A0l_5, A0l_6, A0l_7, A0l_8, A0l_9, A0l_10, A0l_11, A0l_12, A0l_13, A0l_14, A0l_15, A0l_16, A0l_17, A0l_18, A0l_19] <;> simp [setA_len, put_len, put_tot, pad_0, tot_nil, List.length_nil, List.length_cons, A0l_0, A0l_1, A0l_2, A0l_3, A0l_4, A0l_5, A0l_6, A0l_7, A0l_8, A0l_9, A0l_10, A0l_11, A0l_12, A0l_13, A0l_14, A0l_15, A0l_16, A0l_17, A0l_18, A0l_19]
    have n3 := own_nn b5
    by_cases d : i1 = 1
    · subst d
      simp [a1, a2, b1, b2, b3, b4, b5, b6, b7, b8, n3, own_irr, own_mod1, m0_0, m0_1, m0_4, m0_5, m0_12, m0_13, m0_20, m0_21, m0_28, m0_29, m0_36, m0_37, m0_44, m0_45, m0_52, m0_53, m0_60, m0_61, m0_68, m0_69, m0_75, m0_76, m0_82, m0_83, m0_89, m0_90, m0_96, m0_97, m0_104, m0_105, m0_112, m0_113, m0_120, m0_121, m0_128, m0_129, m0_136, m0_137, m0_144, m0_145, m0_152, m0_153, m0_160, m0_161u, m0_162, m0_163, m0_164, m0_167, m0_168i, m0_169, m0_170, m0_172, m0_175, m0_177i, m0_178, m0_179, m0_180, m0_183, m0_184, m0_185, m0_188, m0_189, m0_190, m0_193, m0_194, m0_195, m0_198, m0_199, m0_200, m0_203, m0_204u, m0_205, m0_206, m0_207, m0_210, m0_211, m0_214, m0_215, m0_216, m0_217, m0_220, m0_223, m0_224, m0_227, m1_0, m1_1, m1_2, m1_5, m1_6, m1_7, m1_10, m1_11u, m1_12, m1_13, m1_15, m1_18, m1_19, m1_22, m1_23, m1_24, m1_25, m1_26, m1_29, m1_30, m1_31, m1_32, m1_33, m1_36, m1_37, m1_38, m1_39, m1_40, m1_43, m1_44, m1_45, m1_46, m1_47, m1_50, m1_51, m1_52, m1_53, m1_54, m1_57, m1_58, m1_59, m1_60, m1_63, m1_66, m2_0, m2_1, m2_4, m2_5, m2_8, m2_11, m2_12, m2_13, m2_14, m2_15, m2_18, m2_19, m2_22, m2_25, m2_27, m2_28, m2_29, m2_30, m2_33, m2_34, m2_35, m2_38, m2_40, m2_41, m2_42, m2_43, m2_46, m2_47, m2_48, m2_51, m2_53, m2_54, m2_56, m2_57, m2_60, m2_62, m2_64, m2_67, m2_69, m2_70, m2_71, m2_73, m2_76, m2_79, m2_81, m2_82, m2_83, m2_84, m2_87, m2_88, m2_89, m2_92, m2_93, m2_94, m2_97, m2_98, m2_99, m2_102, m2_103, m2_105, m2_108, m2_109u, m2_111, m2_113, m2_114, m2_117, m2_118, m2_121, m2_123, m2_124, m2_125, m2_126, m2_129, m2_131, m2_132, m2_133, m2_136, m2_139, m2_140, m3_0, m3_1, m3_4, m3_7, m3_9, m3_10, m3_11, m3_14u, m3_15, m3_16, m3_18, m3_21, m3_22, m3_23, m3_26, m3_27, m3_28, m3_29, m3_30, m3_33, m3_34, m3_37, m3_40u, m3_41, m3_42, m3_45, m3_48, m3_49, m3_50, m3_53, m3_54, m3_55, m3_58, m3_60, m3_61, m3_62, m3_63, m3_66, m3_67, m3_68, m3_69, m3_70, m3_73u, m3_74, m3_75, m3_78, m3_79, m3_80, m3_83, m3_84, m3_85, m3_88, m3_90, m3_91, m3_92, m3_93, m3_94, m3_95, m3_98, m3_99, m3_100, m3_101, m3_102, m3_105, m3_106, m3_107, m3_110, m3_111, m3_112, m3_115, m3_116, m3_117, m3_120, m3_121, m3_124, m3_125, m4_0, m4_1, m4_4, m5_0, m5_1, m5_2, m5_5, m5_8, m5_9, m5_10, m5_11, m5_14, m5_15, m5_16, m6_0, m6_1, m6_4, m6_5, m6_6, m6_9, m6_12, m6_13, m6_16, m6_17, m7_0, m7_1, m7_2, m7_5, m7_8, m7_9, m7_10, m7_11, m7_14, m7_15, m7_16, m8_0, m8_1, m8_4, m9_0, m9_1, m9_4, m10_0, m10_1u, m10_2, m10_3, m10_4, m10_7, m10_10, m10_11, m10_14, m10_15, m10_16, m10_17, m10_20, m10_21, m10_22, m10_25, m10_28, m10_29, m11_0, m11_1, m11_2, m11_5, m11_6, m11_7, m11_10, m11_13, m11_14, m11_15, m11_16, m11_17, m11_20u, m11_21, m11_22, m11_23, m11_26, m11_29, m11_30, m11_31, m11_32, m11_33, m11_34, m11_35, m12_0, m12_1u, m12_2, m12_3u, m12_5, m12_6u, m12_8, m12_10, m12_12, m12_15, m12_17, m12_20, m12_23, m12_24, m12_26, m12_27u, m12_27i, m12_27r, m12_29, m12_31i, m12_32, m12_34i, m12_36, m12_39, m12_42, m12_43, m13_0, m13_1, m13_4, m13_5, m13_6, m13_9, m13_10, m13_11, m13_14, m13_15, m13_16, m13_19, m13_20, m13_21, m13_24, m13_25, m13_26, m13_29, m13_30, m13_31, m13_34, m13_35, m13_36, m13_39, m13_40, m13_41u, m13_42, m13_43, m13_44, m13_47, m13_48, m13_51, m13_52, m13_53, m13_54, m13_55, m13_56, m13_57, m13_60, m13_61, m13_62, m13_63, m13_64, m13_67, m13_68, m13_69, m13_70, m13_71, m13_72, m13_73, m13_76, m13_77, m13_78, m13_79, m13_82, m13_85, m14_0, m14_1, m14_2, m14_5, m14_6u, m14_7, m14_8, m14_9, m14_12, m14_13, m14_14, m14_15, m14_18u, m14_18i, m14_18r, m14_19, m14_20, m14_23, m14_24, m14_25, m14_26, m14_27, m14_28, m14_29, m14_30, m14_33u, m14_33i, m14_33r, m14_35, m14_37, m14_40, m14_41, m14_42, m14_43, m14_46, m14_47, m14_49, m14_50, m14_53, m14_56, m14_57, m15_0, m15_1u, m15_2, m15_3, m15_4, m15_7, m15_8u, m15_8i, m15_8r, m15_9, m15_10u, m15_10i, m15_10r, m15_12, m15_14, m15_15, m15_18, m15_19, m15_22, m15_24, m15_25, m15_26, m15_27, m15_28, m15_29, m15_32, m15_33, m15_36, m15_38, m15_39, m15_40, m15_43, m15_44, m15_47, m15_49, m15_50i, m15_51, m15_54, m15_57, m15_58, m15_61, m15_62, m15_63, m15_64, m15_67, m15_70, m16_0, m16_1u, m16_2, m16_3, m16_6, m16_7, m16_8u, m16_10, m16_11u, m16_13, m16_15, m16_16, m16_19, m16_20, m16_23, m16_25, m16_26, m16_28, m16_31, m16_34, m16_35u, m16_35i, m16_35r, m16_37, m16_39, m16_40, m16_43, m16_44, m16_47, m16_49, m16_50, m16_51, m16_53, m16_54, m16_55u, m16_55i, m16_55r, m16_57, m16_59, m16_62, m16_63, m16_66, m16_68, m16_69, m16_71, m16_74, m16_76, m16_77, m16_80, m16_82i, m16_83, m16_86, m16_89, m16_92, m16_95, m16_96, m17_0, m17_1, m17_4, m17_5, m17_6, m17_7, m17_8u, m17_10, m17_12u, m17_14, m17_15u, m17_17, m17_19, m17_22, m17_25, m17_27, m17_28, m17_31, m17_32, m17_33, m17_36, m17_37, m17_38, m17_40, m17_41, m17_42, m17_43, m17_45, m17_48, m17_49u, m17_49i, m17_49r, m17_51, m17_53, m17_55, m17_58, m17_60, m17_61, m17_63i, m17_65, m17_68, m17_71, m17_72, m18_0, m18_1u, m18_3, m18_4, m18_7, m18_8, m18_9u, m18_11, m18_12u, m18_14, m18_16, m18_17, m18_20, m18_21, m18_24, m18_26, m18_27u, m18_27i, m18_27r, m18_29, m18_30, m18_33, m18_35, m18_36, m18_38, m18_41, m18_43, m18_46, m18_48, m18_49, m18_51, m18_52, m18_53, m18_54, m18_56, m18_57, m18_58, m18_61, m18_63, m18_64, m18_65, m18_66i, m18_68, m18_71, m18_74, m18_76, m19_0, m19_1u, m19_2, m19_3, m19_4, m19_7, m19_8, m19_11, m19_12, m19_13, m19_16, m19_17, m19_18, m19_19, m19_20, m19_23, m19_24, m19_25, m19_28, m19_29, m19_30, m19_31, m19_34, m19_37, m19_38i, m19_39, m19_40, m19_41, m19_44, m19_45, m19_48, m19_49, m19_50, m19_53, m19_54, m19_55, m19_56, m19_59, m19_62, m20_0, m20_3, m20_4, m20_5, m20_8u, m20_10, m20_11, m20_12, m20_15, m20_16, m20_19, m20_20, m20_22, m20_25, m20_27, m20_30, m20_31u, m20_33, m20_34, m20_35, m20_38, m20_39, m20_42, m20_45, m20_46, m20_47, m20_50, m20_51, m20_52, m20_55, m20_56, m20_57, m20_60, m20_61, m20_62, m20_65, m20_67u, m20_69, m20_72, m20_74, m20_75, m20_78, m20_80, m20_82, m20_85, m20_87u, m20_89, m20_92, m20_93u, m20_95, m20_97, m20_98, m20_99, m20_100, m20_102, m20_105u, m20_107, m20_109, m20_111, m20_114, m20_115, m20_116, m20_118, m20_121, m20_122, m20_125, m20_126u, m20_128, m20_130, m20_133u, m20_135, m20_137, m20_139, m20_142, m20_143, m20_146, m20_148, m20_151, m20_152, m20_153, m20_155, m20_158, m20_160, m20_163, m20_164, m20_167, m20_168, m20_171, m20_172, m20_173, m20_175, m20_176, m20_179, m20_181, m20_184, m20_185, m20_188, m20_189, m20_192, m20_193, m20_194, m20_196, m20_197, m20_200, m20_202, m20_205, m20_206, m20_209, m20_210, m20_213, m20_214, m20_215, m20_217, m20_220, m20_222, m20_225, m20_226, m20_229, m20_230, m20_233, m20_234, m20_235, m20_237, m20_240, m20_241, m20_244, m20_245, m20_246, m20_248, m20_251, m20_253, m20_256, m20_257, m20_258, m20_260, m20_261, m20_262, m20_263, m20_265, m20_268u, m20_270, m20_272, m20_275, m20_277, m20_278, m20_281, m20_282, m20_285, m20_287, m20_290, m20_292u, m20_294, m20_296, m20_298, m20_301, m20_302, m20_305, m20_306, nb0, nb1, ou_a, Option.toList_some, Option.toList_none, List.nil_append, List.cons_append, getA_set2, setA_len, inB_iff, A0g_0, A0g_1, A0g_2, A0g_3, A0g_4, A0g_5, A0g_6, A0g_7, A0g_8, A0g_9, A0g_10, A0g_11, A0g_12, A0g_13, A0g_14, A0g_15, A0g_16, A0g_17, A0g_18, A0g_19, A0l_0, A0l_1, A0l_2, A0l_3, A0l_4, A0l_5, A0l_6, A0l_7, A0l_8, A0l_9, A0l_10, A0l_11, A0l_12, A0l_13, A0l_14, A0l_15, A0l_16, A0l_17, A0l_18, A0l_19]
      refine ⟨?_, ?_⟩ <;> simp only [ou_a, setA_len, put_len, put_tot, pad_0, tot_nil, List.length_nil, List.length_cons, A0l_0, A0l_1, A0l_2, A0l_3, A0l_4, A0l_5, A0l_6, A0l_7, A0l_8, A0l_9, A0l_10, A0l_11, A0l_12, A0l_13, A0l_14, A0l_15, A0l_16, A0l_17, A0l_18, A0l_19] <;> simp [setA_len, put_len, put_tot, pad_0, tot_nil, List.length_nil, List.length_cons, A0l_0, A0l_1, A0l_2, A0l_3, A0l_4, A0l_5, A0l_6, A0l_7, A0l_8, A0l_9, A0l_10, A0l_11, A0l_12, A0l_13, A0l_14, A0l_15, A0l_16, A0l_17, A0l_18, A0l_19]
    have d0 := own_ne0 b1
    have d1 := own_1mod (own_gt1 b1 d)
    simp [a1, a2, b1, b2, b3, b4, b5, b6, b7, b8, n3, d, d0, d1, own_irr, own_mod1, m0_0, m0_1, m0_4, m0_5, m0_12, m0_13, m0_20, m0_21, m0_28, m0_29, m0_36, m0_37, m0_44, m0_45, m0_52, m0_53, m0_60, m0_61, m0_68, m0_69, m0_75, m0_76, m0_82, m0_83, m0_89, m0_90, m0_96, m0_97, m0_104, m0_105, m0_112, m0_113, m0_120, m0_121, m0_128, m0_129, m0_136, m0_137, m0_144, m0_145, m0_152, m0_153, m0_160, m0_161u, m0_162, m0_163, m0_164, m0_167, m0_168i, m0_169, m0_170, m0_172, m0_175, m0_177i, m0_178, m0_179, m0_180, m0_183, m0_184, m0_185, m0_188, m0_189, m0_190, m0_193, m0_194, m0_195, m0_198, m0_199, m0_200, m0_203, m0_204u, m0_205, m0_206, m0_207, m0_210, m0_211, m0_214, m0_215, m0_216, m0_217, m0_220, m0_223, m0_224, m0_227, m1_0, m1_1, m1_2, m1_5, m1_6, m1_7, m1_10, m1_11u, m1_12, m1_13, m1_15, m1_18, m1_19, m1_22, m1_23, m1_24, m1_25, m1_26, m1_29, m1_30, m1_31, m1_32, m1_33, m1_36, m1_37, m1_38, m1_39, m1_40, m1_43, m1_44, m1_45, m1_46, m1_47, m1_50, m1_51, m1_52, m1_53, m1_54, m1_57, m1_58, m1_59, m1_60, m1_63, m1_66, m2_0, m2_1, m2_4, m2_5, m2_8, m2_11, m2_12, m2_13, m2_14, m2_15, m2_18, m2_19, m2_22, m2_25, m2_27, m2_28, m2_29, m2_30, m2_33, m2_34, m2_35, m2_38, m2_40, m2_41, m2_42, m2_43, m2_46, m2_47, m2_48, m2_51, m2_53, m2_54, m2_56, m2_57, m2_60, m2_62, m2_64, m2_67, m2_69, m2_70, m2_71, m2_73, m2_76, m2_79, m2_81, m2_82, m2_83, m2_84, m2_87, m2_88, m2_89, m2_92, m2_93, m2_94, m2_97, m2_98, m2_99, m2_102, m2_103, m2_105, m2_108, m2_109u, m2_111, m2_113, m2_114, m2_117, m2_118, m2_121, m2_123, m2_124, m2_125, m2_126, m2_129, m2_131, m2_132, m2_133, m2_136, m2_139, m2_140, m3_0, m3_1, m3_4, m3_7, m3_9, m3_10, m3_11, m3_14u, m3_15, m3_16, m3_18, m3_21, m3_22, m3_23, m3_26, m3_27, m3_28, m3_29, m3_30, m3_33, m3_34, m3_37, m3_40u, m3_41, m3_42, m3_45, m3_48, m3_49, m3_50, m3_53, m3_54, m3_55, m3_58, m3_60, m3_61, m3_62, m3_63, m3_66, m3_67, m3_68, m3_69, m3_70, m3_73u, m3_74, m3_75, m3_78, m3_79, m3_80, m3_83, m3_84, m3_85, m3_88, m3_90, m3_91, m3_92, m3_93, m3_94, m3_95, m3_98, m3_99, m3_100, m3_101, m3_102, m3_105, m3_106, m3_107, m3_110, m3_111, m3_112, m3_115, m3_116, m3_117, m3_120, m3_121, m3_124, m3_125, m4_0, m4_1, m4_4, m5_0, m5_1, m5_2, m5_5, m5_8, m5_9, m5_10, m5_11, m5_14, m5_15, m5_16, m6_0, m6_1, m6_4, m6_5, m6_6, m6_9, m6_12, m6_13, m6_16, m6_17, m7_0, m7_1, m7_2, m7_5, m7_8, m7_9, m7_10, m7_11, m7_14, m7_15, m7_16, m8_0, m8_1, m8_4, m9_0, m9_1, m9_4, m10_0, m10_1u, m10_2, m10_3, m10_4, m10_7, m10_10, m10_11, m10_14, m10_15, m10_16, m10_17, m10_20, m10_21, m10_22, m10_25, m10_28, m10_29, m11_0, m11_1, m11_2, m11_5, m11_6, m11_7, m11_10, m11_13, m11_14, m11_15, m11_16, m11_17, m11_20u, m11_21, m11_22, m11_23, m11_26, m11_29, m11_30, m11_31, m11_32, m11_33, m11_34, m11_35, m12_0, m12_1u, m12_2, m12_3u, m12_5, m12_6u, m12_8, m12_10, m12_12, m12_15, m12_17, m12_20, m12_23, m12_24, m12_26, m12_27u, m12_27i, m12_27r, m12_29, m12_31i, m12_32, m12_34i, m12_36, m12_39, m12_42, m12_43, m13_0, m13_1, m13_4, m13_5, m13_6, m13_9, m13_10, m13_11, m13_14, m13_15, m13_16, m13_19, m13_20, m13_21, m13_24, m13_25, m13_26, m13_29, m13_30, m13_31, m13_34, m13_35, m13_36, m13_39, m13_40, m13_41u, m13_42, m13_43, m13_44, m13_47, m13_48, m13_51, m13_52, m13_53, m13_54, m13_55, m13_56, m13_57, m13_60, m13_61, m13_62, m13_63, m13_64, m13_67, m13_68, m13_69, m13_70, m13_71, m13_72, m13_73, m13_76, m13_77, m13_78, m13_79, m13_82, m13_85, m14_0, m14_1, m14_2, m14_5, m14_6u, m14_7, m14_8, m14_9, m14_12, m14_13, m14_14, m14_15, m14_18u, m14_18i, m14_18r, m14_19, m14_20, m14_23, m14_24, m14_25, m14_26, m14_27, m14_28, m14_29, m14_30, m14_33u, m14_33i, m14_33r, m14_35, m14_37, m14_40, m14_41, m14_42, m14_43, m14_46, m14_47, m14_49, m14_50, m14_53, m14_56, m14_57, m15_0, m15_1u, m15_2, m15_3, m15_4, m15_7, m15_8u, m15_8i, m15_8r, m15_9, m15_10u, m15_10i, m15_10r, m15_12, m15_14, m15_15, m15_18, m15_19, m15_22, m15_24, m15_25, m15_26, m15_27, m15_28, m15_29, m15_32, m15_33, m15_36, m15_38, m15_39, m15_40, m15_43, m15_44, m15_47, m15_49, m15_50i, m15_51, m15_54, m15_57, m15_58, m15_61, m15_62, m15_63, m15_64, m15_67, m15_70, m16_0, m16_1u, m16_2, m16_3, m16_6, m16_7, m16_8u, m16_10, m16_11u, m16_13, m16_15, m16_16, m16_19, m16_20, m16_23, m16_25, m16_26, m16_28, m16_31, m16_34, m16_35u, m16_35i, m16_35r, m16_37, m16_39, m16_40, m16_43, m16_44, m16_47, m16_49, m16_50, m16_51, m16_53, m16_54, m16_55u, m16_55i, m16_55r, m16_57, m16_59, m16_62, m16_63, m16_66, m16_68, m16_69, m16_71, m16_74, m16_76, m16_77, m16_80, m16_82i, m16_83, m16_86, m16_89, m16_92, m16_95, m16_96, m17_0, m17_1, m17_4, m17_5, m17_6, m17_7, m17_8u, m17_10, m17_12u, m17_14, m17_15u, m17_17, m17_19, m17_22, m17_25, m17_27, m17_28, m17_31, m17_32, m17_33, m17_36, m17_37, m17_38, m17_40, m17_41, m17_42, m17_43, m17_45, m17_48, m17_49u, m17_49i, m17_49r, m17_51, m17_53, m17_55, m17_58, m17_60, m17_61, m17_63i, m17_65, m17_68, m17_71, m17_72, m18_0, m18_1u, m18_3, m18_4, m18_7, m18_8, m18_9u, m18_11, m18_12u, m18_14, m18_16, m18_17, m18_20, m18_21, m18_24, m18_26, m18_27u, m18_27i, m18_27r, m18_29, m18_30, m18_33, m18_35, m18_36, m18_38, m18_41, m18_43, m18_46, m18_48, m18_49, m18_51, m18_52, m18_53, m18_54, m18_56, m18_57, m18_58, m18_61, m18_63, m18_64, m18_65, m18_66i, m18_68, m18_71, m18_74, m18_76, m19_0, m19_1u, m19_2, m19_3, m19_4, m19_7, m19_8, m19_11, m19_12, m19_13, m19_16, m19_17, m19_18, m19_19, m19_20, m19_23, m19_24, m19_25, m19_28, m19_29, m19_30, m19_31, m19_34, m19_37, m19_38i, m19_39, m19_40, m19_41, m19_44, m19_45, m19_48, m19_49, m19_50, m19_53, m19_54, m19_55, m19_56, m19_59, m19_62, m20_0, m20_3, m20_4, m20_5, m20_8u, m20_10, m20_11, m20_12, m20_15, m20_16, m20_19, m20_20, m20_22, m20_25, m20_27, m20_30, m20_31u, m20_33, m20_34, m20_35, m20_38, m20_39, m20_42, m20_45, m20_46, m20_47, m20_50, m20_51, m20_52, m20_55, m20_56, m20_57, m20_60, m20_61, m20_62, m20_65, m20_67u, m20_69, m20_72, m20_74, m20_75, m20_78, m20_80, m20_82, m20_85, m20_87u, m20_89, m20_92, m20_93u, m20_95, m20_97, m20_98, m20_99, m20_100, m20_102, m20_105u, m20_107, m20_109, m20_111, m20_114, m20_115, m20_116, m20_118, m20_121, m20_122, m20_125, m20_126u, m20_128, m20_130, m20_133u, m20_135, m20_137, m20_139, m20_142, m20_143, m20_146, m20_148, m20_151, m20_152, m20_153, m20_155, m20_158, m20_160, m20_163, m20_164, m20_167, m20_168, m20_171, m20_172, m20_173, m20_175, m20_176, m20_179, m20_181, m20_184, m20_185, m20_188, m20_189, m20_192, m20_193, m20_194, m20_196, m20_197, m20_200, m20_202, m20_205, m20_206, m20_209, m20_210, m20_213, m20_214, m20_215, m20_217, m20_220, m20_222, m20_225, m20_226, m20_229, m20_230, m20_233, m20_234, m20_235, m20_237, m20_240, m20_241, m20_244, m20_245, m20_246, m20_248, m20_251, m20_253, m20_256, m20_257, m20_258, m20_260, m20_261, m20_262, m20_263, m20_265, m20_268u, m20_270, m20_272, m20_275, m20_277, m20_278, m20_281, m20_282, m20_285, m20_287, m20_290, m20_292u, m20_294, m20_296, m20_298, m20_301, m20_302, m20_305, m20_306, nb0, nb1, ou_a, Option.toList_some, Option.toList_none, List.nil_append, List.cons_append, getA_set2, setA_len, inB_iff, A0g_0, A0g_1, A0g_2, A0g_3, A0g_4, A0g_5, A0g_6, A0g_7, A0g_8, A0g_9, A0g_10, A0g_11, A0g_12, A0g_13, A0g_14, A0g_15, A0g_16, A0g_17, A0g_18, A0g_19, A0l_0, A0l_1, A0l_2, A0l_3, A0l_4, A0l_5, A0l_6, A0l_7, A0l_8, A0l_9, A0l_10, A0l_11, A0l_12, A0l_13, A0l_14, A0l_15, A0l_16, A0l_17, A0l_18, A0l_19]
    refine ⟨?_, ?_⟩ <;> simp only [ou_a, setA_len, put_len, put_tot, pad_0, tot_nil, List.length_nil, List.length_cons, A0l_0, A0l_1, A0l_2, A0l_3, A0l_4, A0l_5, A0l_6, A0l_7, A0l_8, A0l_9, A0l_10, A0l_11, A0l_12, A0l_13, A0l_14, A0l_15, A0l_16, A0l_17, A0l_18, A0l_19] <;> simp [setA_len, put_len, put_tot, pad_0, tot_nil, List.length_nil, List.length_cons, A0l_0, A0l_1, A0l_2, A0l_3, A0l_4, A0l_5, A0l_6, A0l_7, A0l_8, A0l_9, A0l_10, A0l_11, A0l_12, A0l_13, A0l_14, A0l_15, A0l_16, A0l_17, A0l_18, A0l_19]
  by_cases a3 : i0 = 1
  · subst a3
    by_cases b1 : i1 < 1
    · simp [b1, m0_0, m0_1, m0_4, m0_5, m0_12, m0_13, m0_20, m0_21, m0_28, m0_29, m0_36, m0_37, m0_44, m0_45, m0_52, m0_53, m0_60, m0_61, m0_68, m0_69, m0_75, m0_76, m0_82, m0_83, m0_89, m0_90, m0_96, m0_97, m0_104, m0_105, m0_112, m0_113, m0_120, m0_121, m0_128, m0_129, m0_136, m0_137, m0_144, m0_145, m0_152, m0_153, m0_160, m0_161u, m0_162, m0_163, m0_164, m0_167, m0_168i, m0_169, m0_170, m0_172, m0_175, m0_177i, m0_178, m0_179, m0_180, m0_183, m0_184, m0_185, m0_188, m0_189, m0_190, m0_193, m0_194, m0_195, m0_198, m0_199, m0_200, m0_203, m0_204u, m0_205, m0_206, m0_207, m0_210, m0_211, m0_214, m0_215, m0_216, m0_217, m0_220, m0_223, m0_224, m0_227, m1_0, m1_1, m1_2, m1_5, m1_6, m1_7, m1_10, m1_11u, m1_12, m1_13, m1_15, m1_18, m1_19, m1_22, m1_23, m1_24, m1_25, m1_26, m1_29, m1_30, m1_31, m1_32, m1_33, m1_36, m1_37, m1_38, m1_39, m1_40, m1_43, m1_44, m1_45, m1_46, m1_47, m1_50, m1_51, m1_52, m1_53, m1_54, m1_57, m1_58, m1_59, m1_60, m1_63, m1_66, m2_0, m2_1, m2_4, m2_5, m2_8, m2_11, m2_12, m2_13, m2_14, m2_15, m2_18, m2_19, m2_22, m2_25, m2_27, m2_28, m2_29, m2_30, m2_33, m2_34, m2_35, m2_38, m2_40, m2_41, m2_42, m2_43, m2_46, m2_47, m2_48, m2_51, m2_53, m2_54, m2_56, m2_57, m2_60, m2_62, m2_64, m2_67, m2_69, m2_70, m2_71, m2_73, m2_76, m2_79, m2_81, m2_82, m2_83, m2_84, m2_87, m2_88, m2_89, m2_92, m2_93, m2_94, m2_97, m2_98, m2_99, m2_102, m2_103, m2_105, m2_108, m2_109u, m2_111, m2_113, m2_114, m2_117, m2_118, m2_121, m2_123, m2_124, m2_125, m2_126, m2_129, m2_131, m2_132, m2_133, m2_136, m2_139, m2_140, m3_0, m3_1, m3_4, m3_7, m3_9, m3_10, m3_11, m3_14u, m3_15, m3_16, m3_18, m3_21, m3_22, m3_23, m3_26, m3_27, m3_28, m3_29, m3_30, m3_33, m3_34, m3_37, m3_40u, m3_41, m3_42, m3_45, m3_48, m3_49, m3_50, m3_53, m3_54, m3_55, m3_58, m3_60, m3_61, m3_62, m3_63, m3_66, m3_67, m3_68, m3_69, m3_70, m3_73u, m3_74, m3_75, m3_78, m3_79, m3_80, m3_83, m3_84, m3_85, m3_88, m3_90, m3_91, m3_92, m3_93, m3_94, m3_95, m3_98, m3_99, m3_100, m3_101, m3_102, m3_105, m3_106, m3_107, m3_110, m3_111, m3_112, m3_115, m3_116, m3_117, m3_120, m3_121, m3_124, m3_125, m4_0, m4_1, m4_4, m5_0, m5_1, m5_2, m5_5, m5_8, m5_9, m5_10, m5_11, m5_14, m5_15, m5_16, m6_0, m6_1, m6_4, m6_5, m6_6, m6_9, m6_12, m6_13, m6_16, m6_17, m7_0, m7_1, m7_2, m7_5, m7_8, m7_9, m7_10, m7_11, m7_14, m7_15, m7_16, m8_0, m8_1, m8_4, m9_0, m9_1, m9_4, m10_0, m10_1u, m10_2, m10_3, m10_4, m10_7, m10_10, m10_11, m10_14, m10_15, m10_16, m10_17, m10_20, m10_21, m10_22, m10_25, m10_28, m10_29, m11_0, m11_1, m11_2, m11_5, m11_6, m11_7, m11_10, m11_13, m11_14, m11_15, m11_16, m11_17, m11_20u, m11_21, m11_22, m11_23, m11_26, m11_29, m11_30, m11_31, m11_32, m11_33, m11_34, m11_35, m12_0, m12_1u, m12_2, m12_3u, m12_5, m12_6u, m12_8, m12_10, m12_12, m12_15, m12_17, m12_20, m12_23, m12_24, m12_26, m12_27u, m12_27i, m12_27r, m12_29, m12_31i, m12_32, m12_34i, m12_36, m12_39, m12_42, m12_43, m13_0, m13_1, m13_4, m13_5, m13_6, m13_9, m13_10, m13_11, m13_14, m13_15, m13_16, m13_19, m13_20, m13_21, m13_24, m13_25, m13_26, m13_29, m13_30, m13_31, m13_34, m13_35, m13_36, m13_39, m13_40, m13_41u, m13_42, m13_43, m13_44, m13_47, m13_48, m13_51, m13_52, m13_53, m13_54, m13_55, m13_56, m13_57, m13_60, m13_61, m13_62, m13_63, m13_64, m13_67, m13_68, m13_69, m13_70, m13_71, m13_72, m13_73, m13_76, m13_77, m13_78, m13_79, m13_82, m13_85, m14_0, m14_1, m14_2, m14_5, m14_6u, m14_7, m14_8, m14_9, m14_12, m14_13, m14_14, m14_15, m14_18u, m14_18i, m14_18r, m14_19, m14_20, m14_23, m14_24, m14_25, m14_26, m14_27, m14_28, m14_29, m14_30, m14_33u, m14_33i, m14_33r, m14_35, m14_37, m14_40, m14_41, m14_42, m14_43, m14_46, m14_47, m14_49, m14_50, m14_53, m14_56, m14_57, m15_0, m15_1u, m15_2, m15_3, m15_4, m15_7, m15_8u, m15_8i, m15_8r, m15_9, m15_10u, m15_10i, m15_10r, m15_12, m15_14, m15_15, m15_18, m15_19, m15_22, m15_24, m15_25, m15_26, m15_27, m15_28, m15_29, m15_32, m15_33, m15_36, m15_38, m15_39, m15_40, m15_43, m15_44, m15_47, m15_49, m15_50i, m15_51, m15_54, m15_57, m15_58, m15_61, m15_62, m15_63, m15_64, m15_67, m15_70, m16_0, m16_1u, m16_2, m16_3, m16_6, m16_7, m16_8u, m16_10, m16_11u, m16_13, m16_15, m16_16, m16_19, m16_20, m16_23, m16_25, m16_26, m16_28, m16_31, m16_34, m16_35u, m16_35i, m16_35r, m16_37, m16_39, m16_40, m16_43, m16_44, m16_47, m16_49, m16_50, m16_51, m16_53, m16_54, m16_55u, m16_55i, m16_55r, m16_57, m16_59, m16_62, m16_63, m16_66, m16_68, m16_69, m16_71, m16_74, m16_76, m16_77, m16_80, m16_82i, m16_83, m16_86, m16_89, m16_92, m16_95, m16_96, m17_0, m17_1, m17_4, m17_5, m17_6, m17_7, m17_8u, m17_10, m17_12u, m17_14, m17_15u, m17_17, m17_19, m17_22, m17_25, m17_27, m17_28, m17_31, m17_32, m17_33, m17_36, m17_37, m17_38, m17_40, m17_41, m17_42, m17_43, m17_45, m17_48, m17_49u, m17_49i, m17_49r, m17_51, m17_53, m17_55, m17_58, m17_60, m17_61, m17_63i, m17_65, m17_68, m17_71, m17_72, m18_0, m18_1u, m18_3, m18_4, m18_7, m18_8, m18_9u, m18_11, m18_12u, m18_14, m18_16, m18_17, m18_20, m18_21, m18_24, m18_26, m18_27u, m18_27i, m18_27r, m18_29, m18_30, m18_33, m18_35, m18_36, m18_38, m18_41, m18_43, m18_46, m18_48, m18_49, m18_51, m18_52, m18_53, m18_54, m18_56, m18_57, m18_58, m18_61, m18_63, m18_64, m18_65, m18_66i, m18_68, m18_71, m18_74, m18_76, m19_0, m19_1u, m19_2, m19_3, m19_4, m19_7, m19_8, m19_11, m19_12, m19_13, m19_16, m19_17, m19_18, m19_19, m19_20, m19_23, m19_24, m19_25, m19_28, m19_29, m19_30, m19_31, m19_34, m19_37, m19_38i, m19_39, m19_40, m19_41, m19_44, m19_45, m19_48, m19_49, m19_50, m19_53, m19_54, m19_55, m19_56, m19_59, m19_62, m20_0, m20_3, m20_4, m20_5, m20_8u, m20_10, m20_11, m20_12, m20_15, m20_16, m20_19, m20_20, m20_22, m20_25, m20_27, m20_30, m20_31u, m20_33, m20_34, m20_35, m20_38, m20_39, m20_42, m20_45, m20_46, m20_47, m20_50, m20_51, m20_52, m20_55, m20_56, m20_57, m20_60, m20_61, m20_62, m20_65, m20_67u, m20_69, m20_72, m20_74, m20_75, m20_78, m20_80, m20_82, m20_85, m20_87u, m20_89, m20_92, m20_93u, m20_95, m20_97, m20_98, m20_99, m20_100, m20_102, m20_105u, m20_107, m20_109, m20_111, m20_114, m20_115, m20_116, m20_118, m20_121, m20_122, m20_125, m20_126u, m20_128, m20_130, m20_133u, m20_135, m20_137, m20_139, m20_142, m20_143, m20_146, m20_148, m20_151, m20_152, m20_153, m20_155, m20_158, m20_160, m20_163, m20_164, m20_167, m20_168, m20_171, m20_172, m20_173, m20_175, m20_176, m20_179, m20_181, m20_184, m20_185, m20_188, m20_189, m20_192, m20_193, m20_194, m20_196, m20_197, m20_200, m20_202, m20_205, m20_206, m20_209, m20_210, m20_213, m20_214, m20_215, m20_217, m20_220, m20_222, m20_225, m20_226, m20_229, m20_230, m20_233, m20_234, m20_235, m20_237, m20_240, m20_241, m20_244, m20_245, m20_246, m20_248, m20_251, m20_253, m20_256, m20_257, m20_258, m20_260, m20_261, m20_262, m20_263, m20_265, m20_268u, m20_270, m20_272, m20_275, m20_277, m20_278, m20_281, m20_282, m20_285, m20_287, m20_290, m20_292u, m20_294, m20_296, m20_298, m20_301, m20_302, m20_305, m20_306, nb0, nb1, ou_a, Option.toList_some, Option.toList_none, List.nil_append, List.cons_append, getA_set2, setA_len, inB_iff, A0g_0, A0g_1, A0g_2, A0g_3, A0g_4, A0g_5, A0g_6, A0g_7, A0g_8, A0g_9, A0g_10, A0g_11, A0g_12, A0g_13, A0g_14, A0g_15, A0g_16, A0g_17, A0g_18, A0g_19, A0l_0, A0l_1, A0l_2, A0l_3, A0l_4, A0l_5, A0l_6, A0l_7, A0l_8, A0l_9, A0l_10, A0l_11, A0l_12, A0l_13, A0l_14, A0l_15, A0l_16, A0l_17, A0l_18, A0l_19]
      refine ⟨?_, ?_⟩ <;> simp only [ou_a, setA_len, put_len, put_tot, pad_0, tot_nil, List.length_nil, List.length_cons, A0l_0, A0l_1, A0l_2, A0l_3, A0l_4, A0l_5, A0l_6, A0l_7, A0l_8, A0l_9, A0l_10, A0l_11, A0l_12, A0l_13, A0l_14, A0l_15, A0l_16, A0l_17, A0l_18, A0l_19] <;> simp [setA_len, put_len, put_tot, pad_0, tot_nil, List.length_nil, List.length_cons, A0l_0, A0l_1, A0l_2, A0l_3, A0l_4, A0l_5, A0l_6, A0l_7, A0l_8, A0l_9, A0l_10, A0l_11, A0l_12, A0l_13, A0l_14, A0l_15, A0l_16, A0l_17, A0l_18, A0l_19]
    by_cases b2 : 840 < i1
    · simp [b1, b2, m0_0, m0_1, m0_4, m0_5, m0_12, m0_13, m0_20, m0_21, m0_28, m0_29, m0_36, m0_37, m0_44, m0_45, m0_52, m0_53, m0_60, m0_61, m0_68, m0_69, m0_75, m0_76, m0_82, m0_83, m0_89, m0_90, m0_96, m0_97, m0_104, m0_105, m0_112, m0_113, m0_120, m0_121, m0_128, m0_129, m0_136, m0_137, m0_144, m0_145, m0_152, m0_153, m0_160, m0_161u, m0_162, m0_163, m0_164, m0_167, m0_168i, m0_169, m0_170, m0_172, m0_175, m0_177i, m0_178, m0_179, m0_180, m0_183, m0_184, m0_185, m0_188, m0_189, m0_190, m0_193, m0_194, m0_195, m0_198, m0_199, m0_200, m0_203, m0_204u, m0_205, m0_206, m0_207, m0_210, m0_211, m0_214, m0_215, m0_216, m0_217, m0_220, m0_223, m0_224, m0_227, m1_0, m1_1, m1_2, m1_5, m1_6, m1_7, m1_10, m1_11u, m1_12, m1_13, m1_15, m1_18, m1_19, m1_22, m1_23, m1_24, m1_25, m1_26, m1_29, m1_30, m1_31, m1_32, m1_33, m1_36, m1_37, m1_38, m1_39, m1_40, m1_43, m1_44, m1_45, m1_46, m1_47, m1_50, m1_51, m1_52, m1_53, m1_54, m1_57, m1_58, m1_59, m1_60, m1_63, m1_66, m2_0, m2_1, m2_4, m2_5, m2_8, m2_11, m2_12, m2_13, m2_14, m2_15, m2_18, m2_19, m2_22, m2_25, m2_27, m2_28, m2_29, m2_30, m2_33, m2_34, m2_35, m2_38, m2_40, m2_41, m2_42, m2_43, m2_46, m2_47, m2_48, m2_51, m2_53, m2_54, m2_56, m2_57, m2_60, m2_62, m2_64, m2_67, m2_69, m2_70, m2_71, m2_73, m2_76, m2_79, m2_81, m2_82, m2_83, m2_84, m2_87, m2_88, m2_89, m2_92, m2_93, m2_94, m2_97, m2_98, m2_99, m2_102, m2_103, m2_105, m2_108, m2_109u, m2_111, m2_113, m2_114, m2_117, m2_118, m2_121, m2_123, m2_124, m2_125, m2_126, m2_129, m2_131, m2_132, m2_133, m2_136, m2_139, m2_140, m3_0, m3_1, m3_4, m3_7, m3_9, m3_10, m3_11, m3_14u, m3_15, m3_16, m3_18, m3_21, m3_22, m3_23, m3_26, m3_27, m3_28, m3_29, m3_30, m3_33, m3_34, m3_37, m3_40u, m3_41, m3_42, m3_45, m3_48, m3_49, m3_50, m3_53, m3_54, m3_55, m3_58, m3_60, m3_61, m3_62, m3_63, m3_66, m3_67, m3_68, m3_69, m3_70, m3_73u, m3_74, m3_75, m3_78, m3_79, m3_80, m3_83, m3_84, m3_85, m3_88, m3_90, m3_91, m3_92, m3_93, m3_94, m3_95, m3_98, m3_99, m3_100, m3_101, m3_102, m3_105, m3_106, m3_107, m3_110, m3_111, m3_112, m3_115, m3_116, m3_117, m3_120, m3_121, m3_124, m3_125, m4_0, m4_1, m4_4, m5_0, m5_1, m5_2, m5_5, m5_8, m5_9, m5_10, m5_11, m5_14, m5_15, m5_16, m6_0, m6_1, m6_4, m6_5, m6_6, m6_9, m6_12, m6_13, m6_16, m6_17, m7_0, m7_1, m7_2, m7_5, m7_8, m7_9, m7_10, m7_11, m7_14, m7_15, m7_16, m8_0, m8_1, m8_4, m9_0, m9_1, m9_4, m10_0, m10_1u, m10_2, m10_3, m10_4, m10_7, m10_10, m10_11, m10_14, m10_15, m10_16, m10_17, m10_20, m10_21, m10_22, m10_25, m10_28, m10_29, m11_0, m11_1, m11_2, m11_5, m11_6, m11_7, m11_10, m11_13, m11_14, m11_15, m11_16, m11_17, m11_20u, m11_21, m11_22, m11_23, m11_26, m11_29, m11_30, m11_31, m11_32, m11_33, m11_34, m11_35, m12_0, m12_1u, m12_2, m12_3u, m12_5, m12_6u, m12_8, m12_10, m12_12, m12_15, m12_17, m12_20, m12_23, m12_24, m12_26, m12_27u, m12_27i, m12_27r, m12_29, m12_31i, m12_32, m12_34i, m12_36, m12_39, m12_42, m12_43, m13_0, m13_1, m13_4, m13_5, m13_6, m13_9, m13_10, m13_11, m13_14, m13_15, m13_16, m13_19, m13_20, m13_21, m13_24, m13_25, m13_26, m13_29, m13_30, m13_31, m13_34, m13_35, m13_36, m13_39, m13_40, m13_41u, m13_42, m13_43, m13_44, m13_47, m13_48, m13_51, m13_52, m13_53, m13_54, m13_55, m13_56, m13_57, m13_60, m13_61, m13_62, m13_63, m13_64, m13_67, m13_68, m13_69, m13_70, m13_71, m13_72, m13_73, m13_76, m13_77, m13_78, m13_79, m13_82, m13_85, m14_0, m14_1, m14_2, m14_5, m14_6u, m14_7, m14_8, m14_9, m14_12, m14_13, m14_14, m14_15, m14_18u, m14_18i, m14_18r, m14_19, m14_20, m14_23, m14_24, m14_25, m14_26, m14_27, m14_28, m14_29, m14_30, m14_33u, m14_33i, m14_33r, m14_35, m14_37, m14_40, m14_41, m14_42, m14_43, m14_46, m14_47, m14_49, m14_50, m14_53, m14_56, m14_57, m15_0, m15_1u, m15_2, m15_3, m15_4, m15_7, m15_8u, m15_8i, m15_8r, m15_9, m15_10u, m15_10i, m15_10r, m15_12, m15_14, m15_15, m15_18, m15_19, m15_22, m15_24, m15_25, m15_26, m15_27, m15_28, m15_29, m15_32, m15_33, m15_36, m15_38, m15_39, m15_40, m15_43, m15_44, m15_47, m15_49, m15_50i, m15_51, m15_54, m15_57, m15_58, m15_61, m15_62, m15_63, m15_64, m15_67, m15_70, m16_0, m16_1u, m16_2, m16_3, m16_6, m16_7, m16_8u, m16_10, m16_11u, m16_13, m16_15, m16_16, m16_19, m16_20, m16_23, m16_25, m16_26, m16_28, m16_31, m16_34, m16_35u, m16_35i, m16_35r, m16_37, m16_39, m16_40, m16_43, m16_44, m16_47, m16_49, m16_50, m16_51, m16_53, m16_54, m16_55u, m16_55i, m16_55r, m16_57, m16_59, m16_62, m16_63, m16_66, m16_68, m16_69, m16_71, m16_74, m16_76, m16_77, m16_80, m16_82i, m16_83, m16_86, m16_89, m16_92, m16_95, m16_96, m17_0, m17_1, m17_4, m17_5, m17_6, m17_7, m17_8u, m17_10, m17_12u, m17_14, m17_15u, m17_17, m17_19, m17_22, m17_25, m17_27, m17_28, m17_31, m17_32, m17_33, m17_36, m17_37, m17_38, m17_40, m17_41, m17_42, m17_43, m17_45, m17_48, m17_49u, m17_49i, m17_49r, m17_51, m17_53, m17_55, m17_58, m17_60, m17_61, m17_63i, m17_65, m17_68, m17_71, m17_72, m18_0, m18_1u, m18_3, m18_4, m18_7, m18_8, m18_9u, m18_11, m18_12u, m18_14, m18_16, m18_17, m18_20, m18_21, m18_24, m18_26, m18_27u, m18_27i, m18_27r, m18_29, m18_30, m18_33, m18_35, m18_36, m18_38, m18_41, m18_43, m18_46, m18_48, m18_49, m18_51, m18_52, m18_53, m18_54, m18_56, m18_57, m18_58, m18_61, m18_63, m18_64, m18_65, m18_66i, m18_68, m18_71, m18_74, m18_76, m19_0, m19_1u, m19_2, m19_3, m19_4, m19_7, m19_8, m19_11, m19_12, m19_13, m19_16, m19_17, m19_18, m19_19, m19_20, m19_23, m19_24, m19_25, m19_28, m19_29, m19_30, m19_31, m19_34, m19_37, m19_38i, m19_39, m19_40, m19_41, m19_44, m19_45, m19_48, m19_49, m19_50, m19_53, m19_54, m19_55, m19_56, m19_59, m19_62, m20_0, m20_3, m20_4, m20_5, m20_8u, m20_10, m20_11, m20_12, m20_15, m20_16, m20_19, m20_20, m20_22, m20_25, m20_27, m20_30, m20_31u, m20_33, m20_34, m20_35, m20_38, m20_39, m20_42, m20_45, m20_46, m20_47, m20_50, m20_51, m20_52, m20_55, m20_56, m20_57, m20_60, m20_61, m20_62, m20_65, m20_67u, m20_69, m20_72, m20_74, m20_75, m20_78, m20_80, m20_82, m20_85, m20_87u, m20_89, m20_92, m20_93u, m20_95, m20_97, m20_98, m20_99, m20_100, m20_102, m20_105u, m20_107, m20_109, m20_111, m20_114, m20_115, m20_116, m20_118, m20_121, m20_122, m20_125, m20_126u, m20_128, m20_130, m20_133u, m20_135, m20_137, m20_139, m20_142, m20_143, m20_146, m20_148, m20_151, m20_152, m20_153, m20_155, m20_158, m20_160, m20_163, m20_164, m20_167, m20_168, m20_171, m20_172, m20_173, m20_175, m20_176, m20_179, m20_181, m20_184, m20_185, m20_188, m20_189, m20_192, m20_193, m20_194, m20_196, m20_197, m20_200, m20_202, m20_205, m20_206, m20_209, m20_210, m20_213, m20_214, m20_215, m20_217, m20_220, m20_222, m20_225, m20_226, m20_229, m20_230, m20_233, m20_234, m20_235, m20_237, m20_240, m20_241, m20_244, m20_245, m20_246, m20_248, m20_251, m20_253, m20_256, m20_257, m20_258, m20_260, m20_261, m20_262, m20_263, m20_265, m20_268u, m20_270, m20_272, m20_275, m20_277, m20_278, m20_281, m20_282, m20_285, m20_287, m20_290, m20_292u, m20_294, m20_296, m20_298, m20_301, m20_302, m20_305, m20_306, nb0, nb1, ou_a, Option.toList_some, Option.toList_none, List.nil_append, List.cons_append, getA_set2, setA_len, inB_iff, A0g_0, A0g_1, A0g_2, A0g_3, A0g_4, A0g_5, A0g_6, A0g_7, A0g_8, A0g_9, A0g_10, A0g_11, A0g_12, A0g_13, A0g_14, A0g_15, A0g_16, A0g_17, A0g_18, A0g_19, A0l_0, A0l_1, A0l_2, A0l_3, A0l_4, A0l_5, A0l_6, A0l_7, A0l_8, A0l_9, A0l_10, A0l_11, A0l_12, A0l_13, A0l_14, A0l_15, A0l_16, A0l_17, A0l_18, A0l_19]
      refine ⟨?_, ?_⟩ <;> simp only [ou_a, setA_len, put_len, put_tot, pad_0, tot_nil, List.length_nil, List.length_cons, A0l_0, A0l_1, A0l_2, A0l_3, A0l_4, A0l_5, A0l_6, A0l_7, A0l_8, A0l_9, A0l_10, A0l_11, A0l_12, A0l_13, A0l_14, A0l_15, A0l_16, A0l_17, A0l_18, A0l_19] <;> simp [setA_len, put_len, put_tot, pad_0, tot_nil, List.length_nil, List.length_cons, A0l_0, A0l_1, A0l_2, A0l_3, A0l_4, A0l_5, A0l_6, A0l_7, A0l_8, A0l_9, A0l_10, A0l_11, A0l_12, A0l_13, A0l_14, A0l_15, A0l_16, A0l_17, A0l_18, A0l_19]
    by_cases b3 : i2 < 1
    · simp [b1, b2, b3, m0_0, m0_1, m0_4, m0_5, m0_12, m0_13, m0_20, m0_21, m0_28, m0_29, m0_36, m0_37, m0_44, m0_45, m0_52, m0_53, m0_60, m0_61, m0_68, m0_69, m0_75, m0_76, m0_82, m0_83, m0_89, m0_90, m0_96, m0_97, m0_104, m0_105, m0_112, m0_113, m0_120, m0_121, m0_128, m0_129, m0_136, m0_137, m0_144, m0_145, m0_152, m0_153, m0_160, m0_161u, m0_162, m0_163, m0_164, m0_167, m0_168i, m0_169, m0_170, m0_172, m0_175, m0_177i, m0_178, m0_179, m0_180, m0_183, m0_184, m0_185, m0_188, m0_189, m0_190, m0_193, m0_194, m0_195, m0_198, m0_199, m0_200, m0_203, m0_204u, m0_205, m0_206, m0_207, m0_210, m0_211, m0_214, m0_215, m0_216, m0_217, m0_220, m0_223, m0_224, m0_227, m1_0, m1_1, m1_2, m1_5, m1_6, m1_7, m1_10, m1_11u, m1_12, m1_13, m1_15, m1_18, m1_19, m1_22, m1_23, m1_24, m1_25, m1_26, m1_29, m1_30, m1_31, m1_32, m1_33, m1_36, m1_37, m1_38, m1_39, m1_40, m1_43, m1_44, m1_45, m1_46, m1_47, m1_50, m1_51, m1_52, m1_53, m1_54, m1_57, m1_58, m1_59, m1_60, m1_63, m1_66, m2_0, m2_1, m2_4, m2_5, m2_8, m2_11, m2_12, m2_13, m2_14, m2_15, m2_18, m2_19, m2_22, m2_25, m2_27, m2_28, m2_29, m2_30, m2_33, m2_34, m2_35, m2_38, m2_40, m2_41, m2_42, m2_43, m2_46, m2_47, m2_48, m2_51, m2_53, m2_54, m2_56, m2_57, m2_60, m2_62, m2_64, m2_67, m2_69, m2_70, m2_71, m2_73, m2_76, m2_79, m2_81, m2_82, m2_83, m2_84, m2_87, m2_88, m2_89, m2_92, m2_93, m2_94, m2_97, m2_98, m2_99, m2_102, m2_103, m2_105, m2_108, m2_109u, m2_111, m2_113, m2_114, m2_117, m2_118, m2_121, m2_123, m2_124, m2_125, m2_126, m2_129, m2_131, m2_132, m2_133, m2_136, m2_139, m2_140, m3_0, m3_1, m3_4, m3_7, m3_9, m3_10, m3_11, m3_14u, m3_15, m3_16, m3_18, m3_21, m3_22, m3_23, m3_26, m3_27, m3_28, m3_29, m3_30, m3_33, m3_34, m3_37, m3_40u, m3_41, m3_42, m3_45, m3_48, m3_49, m3_50, m3_53, m3_54, m3_55, m3_58, m3_60, m3_61, m3_62, m3_63, m3_66, m3_67, m3_68, m3_69, m3_70, m3_73u, m3_74, m3_75, m3_78, m3_79, m3_80, m3_83, m3_84, m3_85, m3_88, m3_90, m3_91, m3_92, m3_93, m3_94, m3_95, m3_98, m3_99, m3_100, m3_101, m3_102, m3_105, m3_106, m3_107, m3_110, m3_111, m3_112, m3_115, m3_116, m3_117, m3_120, m3_121, m3_124, m3_125, m4_0, m4_1, m4_4, m5_0, m5_1, m5_2, m5_5, m5_8, m5_9, m5_10, m5_11, m5_14, m5_15, m5_16, m6_0, m6_1, m6_4, m6_5, m6_6, m6_9, m6_12, m6_13, m6_16, m6_17, m7_0, m7_1, m7_2, m7_5, m7_8, m7_9, m7_10, m7_11, m7_14, m7_15, m7_16, m8_0, m8_1, m8_4, m9_0, m9_1, m9_4, m10_0, m10_1u, m10_2, m10_3, m10_4, m10_7, m10_10, m10_11, m10_14, m10_15, m10_16, m10_17, m10_20, m10_21, m10_22, m10_25, m10_28, m10_29, m11_0, m11_1, m11_2, m11_5, m11_6, m11_7, m11_10, m11_13, m11_14, m11_15, m11_16, m11_17, m11_20u, m11_21, m11_22, m11_23, m11_26, m11_29, m11_30, m11_31, m11_32, m11_33, m11_34, m11_35, m12_0, m12_1u, m12_2, m12_3u, m12_5, m12_6u, m12_8, m12_10, m12_12, m12_15, m12_17, m12_20, m12_23, m12_24, m12_26, m12_27u, m12_27i, m12_27r, m12_29, m12_31i, m12_32, m12_34i, m12_36, m12_39, m12_42, m12_43, m13_0, m13_1, m13_4, m13_5, m13_6, m13_9, m13_10, m13_11, m13_14, m13_15, m13_16, m13_19, m13_20, m13_21, m13_24, m13_25, m13_26, m13_29, m13_30, m13_31, m13_34, m13_35, m13_36, m13_39, m13_40, m13_41u, m13_42, m13_43, m13_44, m13_47, m13_48, m13_51, m13_52, m13_53, m13_54, m13_55, m13_56, m13_57, m13_60, m13_61, m13_62, m13_63, m13_64, m13_67, m13_68, m13_69, m13_70, m13_71, m13_72, m13_73, m13_76, m13_77, m13_78, m13_79, m13_82, m13_85, m14_0, m14_1, m14_2, m14_5, m14_6u, m14_7, m14_8, m14_9, m14_12, m14_13, m14_14, m14_15, m14_18u, m14_18i, m14_18r, m14_19, m14_20, m14_23, m14_24, m14_25, m14_26, m14_27, m14_28, m14_29, m14_30, m14_33u, m14_33i, m14_33r, m14_35, m14_37, m14_40, m14_41, m14_42, m14_43, m14_46, m14_47, m14_49, m14_50, m14_53, m14_56, m14_57, m15_0, m15_1u, m15_2, m15_3, m15_4, m15_7, m15_8u, m15_8i, m15_8r, m15_9, m15_10u, m15_10i, m15_10r, m15_12, m15_14, m15_15, m15_18, m15_19, m15_22, m15_24, m15_25, m15_26, m15_27, m15_28, m15_29, m15_32, m15_33, m15_36, m15_38, m15_39, m15_40, m15_43, m15_44, m15_47, m15_49, m15_50i, m15_51, m15_54, m15_57, m15_58, m15_61, m15_62, m15_63, m15_64, m15_67, m15_70, m16_0, m16_1u, m16_2, m16_3, m16_6, m16_7, m16_8u, m16_10, m16_11u, m16_13, m16_15, m16_16, m16_19, m16_20, m16_23, m16_25, m16_26, m16_28, m16_31, m16_34, m16_35u, m16_35i, m16_35r, m16_37, m16_39, m16_40, m16_43, m16_44, m16_47, m16_49, m16_50, m16_51, m16_53, m16_54, m16_55u, m16_55i, m16_55r, m16_57, m16_59, m16_62, m16_63, m16_66, m16_68, m16_69, m16_71, m16_74, m16_76, m16_77, m16_80, m16_82i, m16_83, m16_86, m16_89, m16_92, m16_95, m16_96, m17_0, m17_1, m17_4, m17_5, m17_6, m17_7, m17_8u, m17_10, m17_12u, m17_14, m17_15u, m17_17, m17_19, m17_22, m17_25, m17_27, m17_28, m17_31, m17_32, m17_33, m17_36, m17_37, m17_38, m17_40, m17_41, m17_42, m17_43, m17_45, m17_48, m17_49u, m17_49i, m17_49r, m17_51, m17_53, m17_55, m17_58, m17_60, m17_61, m17_63i, m17_65, m17_68, m17_71, m17_72, m18_0, m18_1u, m18_3, m18_4, m18_7, m18_8, m18_9u, m18_11, m18_12u, m18_14, m18_16, m18_17, m18_20, m18_21, m18_24, m18_26, m18_27u, m18_27i, m18_27r, m18_29, m18_30, m18_33, m18_35, m18_36, m18_38, m18_41, m18_43, m18_46, m18_48, m18_49, m18_51, m18_52, m18_53, m18_54, m18_56, m18_57, m18_58, m18_61, m18_63, m18_64, m18_65, m18_66i, m18_68, m18_71, m18_74, m18_76, m19_0, m19_1u, m19_2, m19_3, m19_4, m19_7, m19_8, m19_11, m19_12, m19_13, m19_16, m19_17, m19_18, m19_19, m19_20, m19_23, m19_24, m19_25, m19_28, m19_29, m19_30, m19_31, m19_34, m19_37, m19_38i, m19_39, m19_40, m19_41, m19_44, m19_45, m19_48, m19_49, m19_50, m19_53, m19_54, m19_55, m19_56, m19_59, m19_62, m20_0, m20_3, m20_4, m20_5, m20_8u, m20_10, m20_11, m20_12, m20_15, m20_16, m20_19, m20_20, m20_22, m20_25, m20_27, m20_30, m20_31u, m20_33, m20_34, m20_35, m20_38, m20_39, m20_42, m20_45, m20_46, m20_47, m20_50, m20_51, m20_52, m20_55, m20_56, m20_57, m20_60, m20_61, m20_62, m20_65, m20_67u, m20_69, m20_72, m20_74, m20_75, m20_78, m20_80, m20_82, m20_85, m20_87u, m20_89, m20_92, m20_93u, m20_95, m20_97, m20_98, m20_99, m20_100, m20_102, m20_105u, m20_107, m20_109, m20_111, m20_114, m20_115, m20_116, m20_118, m20_121, m20_122, m20_125, m20_126u, m20_128, m20_130, m20_133u, m20_135, m20_137, m20_139, m20_142, m20_143, m20_146, m20_148, m20_151, m20_152, m20_153, m20_155, m20_158, m20_160, m20_163, m20_164, m20_167, m20_168, m20_171, m20_172, m20_173, m20_175, m20_176, m20_179, m20_181, m20_184, m20_185, m20_188, m20_189, m20_192, m20_193, m20_194, m20_196, m20_197, m20_200, m20_202, m20_205, m20_206, m20_209, m20_210, m20_213, m20_214, m20_215, m20_217, m20_220, m20_222, m20_225, m20_226, m20_229, m20_230, m20_233, m20_234, m20_235, m20_237, m20_240, m20_241, m20_244, m20_245, m20_246, m20_248, m20_251, m20_253, m20_256, m20_257, m20_258, m20_260, m20_261, m20_262, m20_263, m20_265, m20_268u, m20_270, m20_272, m20_275, m20_277, m20_278, m20_281, m20_282, m20_285, m20_287, m20_290, m20_292u, m20_294, m20_296, m20_298, m20_301, m20_302, m20_305, m20_306, nb0, nb1, ou_a, Option.toList_some, Option.toList_none, List.nil_append, List.cons_append, getA_set2, setA_len, inB_iff, A0g_0, A0g_1, A0g_2, A0g_3, A0g_4, A0g_5, A0g_6, A0g_7, A0g_8, A0g_9, A0g_10, A0g_11, A0g_12, A0g_13, A0g_14, A0g_15, A0g_16, A0g_17, A0g_18, A0g_19, A0l_0, A0l_1, A0l_2, A0l_3, A0l_4, A0l_5, A0l_6, A0l_7, A0l_8, A0l_9, A0l_10, A0l_11, A0l_12, A0l_13, A0l_14, A0l_15, A0l_16, A0l_17, A0l_18, A0l_19]
      refine ⟨?_, ?_⟩ <;> simp only [ou_a, setA_len, put_len, put_tot, pad_0, tot_nil, List.length_nil, List.length_cons, A0l_0, A0l_1, A0l_2, A0l_3, A0l_4, A0l_5, A0l_6, A0l_7, A0l_8, A0l_9, A0l_10, A0l_11, A0l_12, A0l_13, A0l_14, A0l_15, A0l_16, A0l_17, A0l_18, A0l_19] <;> simp [setA_len, put_len, put_tot, pad_0, tot_nil, List.length_nil, List.length_cons, A0l_0, A0l_1, A0l_2, A0l_3, A0l_4, A0l_5, A0l_6, A0l_7, A0l_8, A0l_9, A0l_10, A0l_11, A0l_12, A0l_13, A0l_14, A0l_15, A0l_16, A0l_17, A0l_18, A0l_19]
    by_cases b4 : i1 < i2
    · simp [b1, b2, b3, b4, m0_0, m0_1, m0_4, m0_5, m0_12, m0_13, m0_20, m0_21, m0_28, m0_29, m0_36, m0_37, m0_44, m0_45, m0_52, m0_53, m0_60, m0_61, m0_68, m0_69, m0_75, m0_76, m0_82, m0_83, m0_89, m0_90, m0_96, m0_97, m0_104, m0_105, m0_112, m0_113, m0_120, m0_121, m0_128, m0_129, m0_136, m0_137, m0_144, m0_145, m0_152, m0_153, m0_160, m0_161u, m0_162, m0_163, m0_164, m0_167, m0_168i, m0_169, m0_170, m0_172, m0_175, m0_177i, m0_178, m0_179, m0_180, m0_183, m0_184, m0_185, m0_188, m0_189, m0_190, m0_193, m0_194, m0_195, m0_198, m0_199, m0_200, m0_203, m0_204u, m0_205, m0_206, m0_207, m0_210, m0_211, m0_214, m0_215, m0_216, m0_217, m0_220, m0_223, m0_224, m0_227, m1_0, m1_1, m1_2, m1_5, m1_6, m1_7, m1_10, m1_11u, m1_12, m1_13, m1_15, m1_18, m1_19, m1_22, m1_23, m1_24, m1_25, m1_26, m1_29, m1_30, m1_31, m1_32, m1_33, m1_36, m1_37, m1_38, m1_39, m1_40, m1_43, m1_44, m1_45, m1_46, m1_47, m1_50, m1_51, m1_52, m1_53, m1_54, m1_57, m1_58, m1_59, m1_60, m1_63, m1_66, m2_0, m2_1, m2_4, m2_5, m2_8, m2_11, m2_12, m2_13, m2_14, m2_15, m2_18, m2_19, m2_22, m2_25, m2_27, m2_28, m2_29, m2_30, m2_33, m2_34, m2_35, m2_38, m2_40, m2_41, m2_42, m2_43, m2_46, m2_47, m2_48, m2_51, m2_53, m2_54, m2_56, m2_57, m2_60, m2_62, m2_64, m2_67, m2_69, m2_70, m2_71, m2_73, m2_76, m2_79, m2_81, m2_82, m2_83, m2_84, m2_87, m2_88, m2_89, m2_92, m2_93, m2_94, m2_97, m2_98, m2_99, m2_102, m2_103, m2_105, m2_108, m2_109u, m2_111, m2_113, m2_114, m2_117, m2_118, m2_121, m2_123, m2_124, m2_125, m2_126, m2_129, m2_131, m2_132, m2_133, m2_136, m2_139, m2_140, m3_0, m3_1, m3_4, m3_7, m3_9, m3_10, m3_11, m3_14u, m3_15, m3_16, m3_18, m3_21, m3_22, m3_23, m3_26, m3_27, m3_28, m3_29, m3_30, m3_33, m3_34, m3_37, m3_40u, m3_41, m3_42, m3_45, m3_48, m3_49, m3_50, m3_53, m3_54, m3_55, m3_58, m3_60, m3_61, m3_62, m3_63, m3_66, m3_67, m3_68, m3_69, m3_70, m3_73u, m3_74, m3_75, m3_78, m3_79, m3_80, m3_83, m3_84, m3_85, m3_88, m3_90, m3_91, m3_92, m3_93, m3_94, m3_95, m3_98, m3_99, m3_100, m3_101, m3_102, m3_105, m3_106, m3_107, m3_110, m3_111, m3_112, m3_115, m3_116, m3_117, m3_120, m3_121, m3_124, m3_125, m4_0, m4_1, m4_4, m5_0, m5_1, m5_2, m5_5, m5_8, m5_9, m5_10, m5_11, m5_14, m5_15, m5_16, m6_0, m6_1, m6_4, m6_5, m6_6, m6_9, m6_12, m6_13, m6_16, m6_17, m7_0, m7_1, m7_2, m7_5, m7_8, m7_9, m7_10, m7_11, m7_14, m7_15, m7_16, m8_0, m8_1, m8_4, m9_0, m9_1, m9_4, m10_0, m10_1u, m10_2, m10_3, m10_4, m10_7, m10_10, m10_11, m10_14, m10_15, m10_16, m10_17, m10_20, m10_21, m10_22, m10_25, m10_28, m10_29, m11_0, m11_1, m11_2, m11_5, m11_6, m11_7, m11_10, m11_13, m11_14, m11_15, m11_16, m11_17, m11_20u, m11_21, m11_22, m11_23, m11_26, m11_29, m11_30, m11_31, m11_32, m11_33, m11_34, m11_35, m12_0, m12_1u, m12_2, m12_3u, m12_5, m12_6u, m12_8, m12_10, m12_12, m12_15, m12_17, m12_20, m12_23, m12_24, m12_26, m12_27u, m12_27i, m12_27r, m12_29, m12_31i, m12_32, m12_34i, m12_36, m12_39, m12_42, m12_43, m13_0, m13_1, m13_4, m13_5, m13_6, m13_9, m13_10, m13_11, m13_14, m13_15, m13_16, m13_19, m13_20, m13_21, m13_24, m13_25, m13_26, m13_29, m13_30, m13_31, m13_34, m13_35, m13_36, m13_39, m13_40, m13_41u, m13_42, m13_43, m13_44, m13_47, m13_48, m13_51, m13_52, m13_53, m13_54, m13_55, m13_56, m13_57, m13_60, m13_61, m13_62, m13_63, m13_64, m13_67, m13_68, m13_69, m13_70, m13_71, m13_72, m13_73, m13_76, m13_77, m13_78, m13_79, m13_82, m13_85, m14_0, m14_1, m14_2, m14_5, m14_6u, m14_7, m14_8, m14_9, m14_12, m14_13, m14_14, m14_15, m14_18u, m14_18i, m14_18r, m14_19, m14_20, m14_23, m14_24, m14_25, m14_26, m14_27, m14_28, m14_29, m14_30, m14_33u, m14_33i, m14_33r, m14_35, m14_37, m14_40, m14_41, m14_42, m14_43, m14_46, m14_47, m14_49, m14_50, m14_53, m14_56, m14_57, m15_0, m15_1u, m15_2, m15_3, m15_4, m15_7, m15_8u, m15_8i, m15_8r, m15_9, m15_10u, m15_10i, m15_10r, m15_12, m15_14, m15_15, m15_18, m15_19, m15_22, m15_24, m15_25, m15_26, m15_27, m15_28, m15_29, m15_32, m15_33, m15_36, m15_38, m15_39, m15_40, m15_43, m15_44, m15_47, m15_49, m15_50i, m15_51, m15_54, m15_57, m15_58, m15_61, m15_62, m15_63, m15_64, m15_67, m15_70, m16_0, m16_1u, m16_2, m16_3, m16_6, m16_7, m16_8u, m16_10, m16_11u, m16_13, m16_15, m16_16, m16_19, m16_20, m16_23, m16_25, m16_26, m16_28, m16_31, m16_34, m16_35u, m16_35i, m16_35r, m16_37, m16_39, m16_40, m16_43, m16_44, m16_47, m16_49, m16_50, m16_51, m16_53, m16_54, m16_55u, m16_55i, m16_55r, m16_57, m16_59, m16_62, m16_63, m16_66, m16_68, m16_69, m16_71, m16_74, m16_76, m16_77, m16_80, m16_82i, m16_83, m16_86, m16_89, m16_92, m16_95, m16_96, m17_0, m17_1, m17_4, m17_5, m17_6, m17_7, m17_8u, m17_10, m17_12u, m17_14, m17_15u, m17_17, m17_19, m17_22, m17_25, m17_27, m17_28, m17_31, m17_32, m17_33, m17_36, m17_37, m17_38, m17_40, m17_41, m17_42, m17_43, m17_45, m17_48, m17_49u, m17_49i, m17_49r, m17_51, m17_53, m17_55, m17_58, m17_60, m17_61, m17_63i, m17_65, m17_68, m17_71, m17_72, m18_0, m18_1u, m18_3, m18_4, m18_7, m18_8, m18_9u, m18_11, m18_12u, m18_14, m18_16, m18_17, m18_20, m18_21, m18_24, m18_26, m18_27u, m18_27i, m18_27r, m18_29, m18_30, m18_33, m18_35, m18_36, m18_38, m18_41, m18_43, m18_46, m18_48, m18_49, m18_51, m18_52, m18_53, m18_54, m18_56, m18_57, m18_58, m18_61, m18_63, m18_64, m18_65, m18_66i, m18_68, m18_71, m18_74, m18_76, m19_0, m19_1u, m19_2, m19_3, m19_4, m19_7, m19_8, m19_11, m19_12, m19_13, m19_16, m19_17, m19_18, m19_19, m19_20, m19_23, m19_24, m19_25, m19_28, m19_29, m19_30, m19_31, m19_34, m19_37, m19_38i, m19_39, m19_40, m19_41, m19_44, m19_45, m19_48, m19_49, m19_50, m19_53, m19_54, m19_55, m19_56, m19_59, m19_62, m20_0, m20_3, m20_4, m20_5, m20_8u, m20_10, m20_11, m20_12, m20_15, m20_16, m20_19, m20_20, m20_22, m20_25, m20_27, m20_30, m20_31u, m20_33, m20_34, m20_35, m20_38, m20_39, m20_42, m20_45, m20_46, m20_47, m20_50, m20_51, m20_52, m20_55, m20_56, m20_57, m20_60, m20_61, m20_62, m20_65, m20_67u, m20_69, m20_72, m20_74, m20_75, m20_78, m20_80, m20_82, m20_85, m20_87u, m20_89, m20_92, m20_93u, m20_95, m20_97, m20_98, m20_99, m20_100, m20_102, m20_105u, m20_107, m20_109, m20_111, m20_114, m20_115, m20_116, m20_118, m20_121, m20_122, m20_125, m20_126u, m20_128, m20_130, m20_133u, m20_135, m20_137, m20_139, m20_142, m20_143, m20_146, m20_148, m20_151, m20_152, m20_153, m20_155, m20_158, m20_160, m20_163, m20_164, m20_167, m20_168, m20_171, m20_172, m20_173, m20_175, m20_176, m20_179, m20_181, m20_184, m20_185, m20_188, m20_189, m20_192, m20_193, m20_194, m20_196, m20_197, m20_200, m20_202, m20_205, m20_206, m20_209, m20_210, m20_213, m20_214, m20_215, m20_217, m20_220, m20_222, m20_225, m20_226, m20_229, m20_230, m20_233, m20_234, m20_235, m20_237, m20_240, m20_241, m20_244, m20_245, m20_246, m20_248, m20_251, m20_253, m20_256, m20_257, m20_258, m20_260, m20_261, m20_262, m20_263, m20_265, m20_268u, m20_270, m20_272, m20_275, m20_277, m20_278, m20_281, m20_282, m20_285, m20_287, m20_290, m20_292u, m20_294, m20_296, m20_298, m20_301, m20_302, m20_305, m20_306, nb0, nb1, ou_a, Option.toList_some, Option.toList_none, List.nil_append, List.cons_append, getA_set2, setA_len, inB_iff, A0g_0, A0g_1, A0g_2, A0g_3, A0g_4, A0g_5, A0g_6, A0g_7, A0g_8, A0g_9, A0g_10, A0g_11, A0g_12, A0g_13, A0g_14, A0g_15, A0g_16, A0g_17, A0g_18, A0g_19, A0l_0, A0l_1, A0l_2, A0l_3, A0l_4, A0l_5, A0l_6, A0l_7, A0l_8, A0l_9, A0l_10, A0l_11, A0l_12, A0l_13, A0l_14, A0l_15, A0l_16, A0l_17, A0l_18, A0l_19]
      refine ⟨?_, ?_⟩ <;> simp only [ou_a, setA_len, put_len, put_tot, pad_0, tot_nil, List.length_nil, List.length_cons, A0l_0, A0l_1, A0l_2, A0l_3, A0l_4, A0l_5, A0l_6, A0l_7, A0l_8, A0l_9, A0l_10, A0l_11, A0l_12, A0l_13, A0l_14, A0l_15, A0l_16, A0l_17, A0l_18, A0l_19] <;> simp [setA_len, put_len, put_tot, pad_0, tot_nil, List.length_nil, List.length_cons, A0l_0, A0l_1, A0l_2, A0l_3, A0l_4, A0l_5, A0l_6, A0l_7, A0l_8, A0l_9, A0l_10, A0l_11, A0l_12, A0l_13, A0l_14, A0l_15, A0l_16, A0l_17, A0l_18, A0l_19]
    by_cases b5 : i3 < 1
    · simp [b1, b2, b3, b4, b5, m0_0, m0_1, m0_4, m0_5, m0_12, m0_13, m0_20, m0_21, m0_28, m0_29, m0_36, m0_37, m0_44, m0_45, m0_52, m0_53, m0_60, m0_61, m0_68, m0_69, m0_75, m0_76, m0_82, m0_83, m0_89, m0_90, m0_96, m0_97, m0_104, m0_105, m0_112, m0_113, m0_120, m0_121, m0_128, m0_129, m0_136, m0_137, m0_144, m0_145, m0_152, m0_153, m0_160, m0_161u, m0_162, m0_163, m0_164, m0_167, m0_168i, m0_169, m0_170, m0_172, m0_175, m0_177i, m0_178, m0_179, m0_180, m0_183, m0_184, m0_185, m0_188, m0_189, m0_190, m0_193, m0_194, m0_195, m0_198, m0_199, m0_200, m0_203, m0_204u, m0_205, m0_206, m0_207, m0_210, m0_211, m0_214, m0_215, m0_216, m0_217, m0_220, m0_223, m0_224, m0_227, m1_0, m1_1, m1_2, m1_5, m1_6, m1_7, m1_10, m1_11u, m1_12, m1_13, m1_15, m1_18, m1_19, m1_22, m1_23, m1_24, m1_25, m1_26, m1_29, m1_30, m1_31, m1_32, m1_33, m1_36, m1_37, m1_38, m1_39, m1_40, m1_43, m1_44, m1_45, m1_46, m1_47, m1_50, m1_51, m1_52, m1_53, m1_54, m1_57, m1_58, m1_59, m1_60, m1_63, m1_66, m2_0, m2_1, m2_4, m2_5, m2_8, m2_11, m2_12, m2_13, m2_14, m2_15, m2_18, m2_19, m2_22, m2_25, m2_27, m2_28, m2_29, m2_30, m2_33, m2_34, m2_35, m2_38, m2_40, m2_41, m2_42, m2_43, m2_46, m2_47, m2_48, m2_51, m2_53, m2_54, m2_56, m2_57, m2_60, m2_62, m2_64, m2_67, m2_69, m2_70, m2_71, m2_73, m2_76, m2_79, m2_81, m2_82, m2_83, m2_84, m2_87, m2_88, m2_89, m2_92, m2_93, m2_94, m2_97, m2_98, m2_99, m2_102, m2_103, m2_105, m2_108, m2_109u, m2_111, m2_113, m2_114, m2_117, m2_118, m2_121, m2_123, m2_124, m2_125, m2_126, m2_129, m2_131, m2_132, m2_133, m2_136, m2_139, m2_140, m3_0, m3_1, m3_4, m3_7, m3_9, m3_10, m3_11, m3_14u, m3_15, m3_16, m3_18, m3_21, m3_22, m3_23, m3_26, m3_27, m3_28, m3_29, m3_30, m3_33, m3_34, m3_37, m3_40u, m3_41, m3_42, m3_45, m3_48, m3_49, m3_50, m3_53, m3_54, m3_55, m3_58, m3_60, m3_61, m3_62, m3_63, m3_66, m3_67, m3_68, m3_69, m3_70, m3_73u, m3_74, m3_75, m3_78, m3_79, m3_80, m3_83, m3_84, m3_85, m3_88, m3_90, m3_91, m3_92, m3_93, m3_94, m3_95, m3_98, m3_99, m3_100, m3_101, m3_102, m3_105, m3_106, m3_107, m3_110, m3_111, m3_112, m3_115, m3_116, m3_117, m3_120, m3_121, m3_124, m3_125, m4_0, m4_1, m4_4, m5_0, m5_1, m5_2, m5_5, m5_8, m5_9, m5_10, m5_11, m5_14, m5_15, m5_16, m6_0, m6_1, m6_4, m6_5, m6_6, m6_9, m6_12, m6_13, m6_16, m6_17, m7_0, m7_1, m7_2, m7_5, m7_8, m7_9, m7_10, m7_11, m7_14, m7_15, m7_16, m8_0, m8_1, m8_4, m9_0, m9_1, m9_4, m10_0, m10_1u, m10_2, m10_3, m10_4, m10_7, m10_10, m10_11, m10_14, m10_15, m10_16, m10_17, m10_20, m10_21, m10_22, m10_25, m10_28, m10_29, m11_0, m11_1, m11_2, m11_5, m11_6, m11_7, m11_10, m11_13, m11_14, m11_15, m11_16, m11_17, m11_20u, m11_21, m11_22, m11_23, m11_26, m11_29, m11_30, m11_31, m11_32, m11_33, m11_34, m11_35, m12_0, m12_1u, m12_2, m12_3u, m12_5, m12_6u, m12_8, m12_10, m12_12, m12_15, m12_17, m12_20, m12_23, m12_24, m12_26, m12_27u, m12_27i, m12_27r, m12_29, m12_31i, m12_32, m12_34i, m12_36, m12_39, m12_42, m12_43, m13_0, m13_1, m13_4, m13_5, m13_6, m13_9, m13_10, m13_11, m13_14, m13_15, m13_16, m13_19, m13_20, m13_21, m13_24, m13_25, m13_26, m13_29, m13_30, m13_31, m13_34, m13_35, m13_36, m13_39, m13_40, m13_41u, m13_42, m13_43, m13_44, m13_47, m13_48, m13_51, m13_52, m13_53, m13_54, m13_55, m13_56, m13_57, m13_60, m13_61, m13_62, m13_63, m13_64, m13_67, m13_68, m13_69, m13_70, m13_71, m13_72, m13_73, m13_76, m13_77, m13_78, m13_79, m13_82, m13_85, m14_0, m14_1, m14_2, m14_5, m14_6u, m14_7, m14_8, m14_9, m14_12, m14_13, m14_14, m14_15, m14_18u, m14_18i, m14_18r, m14_19, m14_20, m14_23, m14_24, m14_25, m14_26, m14_27, m14_28, m14_29, m14_30, m14_33u, m14_33i, m14_33r, m14_35, m14_37, m14_40, m14_41, m14_42, m14_43, m14_46, m14_47, m14_49, m14_50, m14_53, m14_56, m14_57, m15_0, m15_1u, m15_2, m15_3, m15_4, m15_7, m15_8u, m15_8i, m15_8r, m15_9, m15_10u, m15_10i, m15_10r, m15_12, m15_14, m15_15, m15_18, m15_19, m15_22, m15_24, m15_25, m15_26, m15_27, m15_28, m15_29, m15_32, m15_33, m15_36, m15_38, m15_39, m15_40, m15_43, m15_44, m15_47, m15_49, m15_50i, m15_51, m15_54, m15_57, m15_58, m15_61, m15_62, m15_63, m15_64, m15_67, m15_70, m16_0, m16_1u, m16_2, m16_3, m16_6, m16_7, m16_8u, m16_10, m16_11u, m16_13, m16_15, m16_16, m16_19, m16_20, m16_23, m16_25, m16_26, m16_28, m16_31, m16_34, m16_35u, m16_35i, m16_35r, m16_37, m16_39, m16_40, m16_43, m16_44, m16_47, m16_49, m16_50, m16_51, m16_53, m16_54, m16_55u, m16_55i, m16_55r, m16_57, m16_59, m16_62, m16_63, m16_66, m16_68, m16_69, m16_71, m16_74, m16_76, m16_77, m16_80, m16_82i, m16_83, m16_86, m16_89, m16_92, m16_95, m16_96, m17_0, m17_1, m17_4, m17_5, m17_6, m17_7, m17_8u, m17_10, m17_12u, m17_14, m17_15u, m17_17, m17_19, m17_22, m17_25, m17_27, m17_28, m17_31, m17_32, m17_33, m17_36, m17_37, m17_38, m17_40, m17_41, m17_42, m17_43, m17_45, m17_48, m17_49u, m17_49i, m17_49r, m17_51, m17_53, m17_55, m17_58, m17_60, m17_61, m17_63i, m17_65, m17_68, m17_71, m17_72, m18_0, m18_1u, m18_3, m18_4, m18_7, m18_8, m18_9u, m18_11, m18_12u, m18_14, m18_16, m18_17, m18_20, m18_21, m18_24, m18_26, m18_27u, m18_27i, m18_27r, m18_29, m18_30, m18_33, m18_35, m18_36, m18_38, m18_41, m18_43, m18_46, m18_48, m18_49, m18_51, m18_52, m18_53, m18_54, m18_56, m18_57, m18_58, m18_61, m18_63, m18_64, m18_65, m18_66i, m18_68, m18_71, m18_74, m18_76, m19_0, m19_1u, m19_2, m19_3, m19_4, m19_7, m19_8, m19_11, m19_12, m19_13, m19_16, m19_17, m19_18, m19_19, m19_20, m19_23, m19_24, m19_25, m19_28, m19_29, m19_30, m19_31, m19_34, m19_37, m19_38i, m19_39, m19_40, m19_41, m19_44, m19_45, m19_48, m19_49, m19_50, m19_53, m19_54, m19_55, m19_56, m19_59, m19_62, m20_0, m20_3, m20_4, m20_5, m20_8u, m20_10, m20_11, m20_12, m20_15, m20_16, m20_19, m20_20, m20_22, m20_25, m20_27, m20_30, m20_31u, m20_33, m20_34, m20_35, m20_38, m20_39, m20_42, m20_45, m20_46, m20_47, m20_50, m20_51, m20_52, m20_55, m20_56, m20_57, m20_60, m20_61, m20_62, m20_65, m20_67u, m20_69, m20_72, m20_74, m20_75, m20_78, m20_80, m20_82, m20_85, m20_87u, m20_89, m20_92, m20_93u, m20_95, m20_97, m20_98, m20_99, m20_100, m20_102, m20_105u, m20_107, m20_109, m20_111, m20_114, m20_115, m20_116, m20_118, m20_121, m20_122, m20_125, m20_126u, m20_128, m20_130, m20_133u, m20_135, m20_137, m20_139, m20_142, m20_143, m20_146, m20_148, m20_151, m20_152, m20_153, m20_155, m20_158, m20_160, m20_163, m20_164, m20_167, m20_168, m20_171, m20_172, m20_173, m20_175, m20_176, m20_179, m20_181, m20_184, m20_185, m20_188, m20_189, m20_192, m20_193, m20_194, m20_196, m20_197, m20_200, m20_202, m20_205, m20_206, m20_209, m20_210, m20_213, m20_214, m20_215, m20_217, m20_220, m20_222, m20_225, m20_226, m20_229, m20_230, m20_233, m20_234, m20_235, m20_237, m20_240, m20_241, m20_244, m20_245, m20_246, m20_248, m20_251, m20_253, m20_256, m20_257, m20_258, m20_260, m20_261, m20_262, m20_263, m20_265, m20_268u, m20_270, m20_272, m20_275, m20_277, m20_278, m20_281, m20_282, m20_285, m20_287, m20_290, m20_292u, m20_294, m20_296, m20_298, m20_301, m20_302, m20_305, m20_306, nb0, nb1, ou_a, Option.toList_some, Option.toList_none, List.nil_append, List.cons_append, getA_set2, setA_len, inB_iff, A0g_0, A0g_1, A0g_2, A0g_3, A0g_4, A0g_5, A0g_6, A0g_7, A0g_8, A0g_9, A0g_10, A0g_11, A0g_12, A0g_13, A0g_14, A0g_15, A0g_16, A0g_17, A0g_18, A0g_19, A0l_0, A0l_1, A0l_2, A0l_3, A0l_4, A0l_5, A0l_6, A0l_7, A0l_8, A0l_9, A0l_10, A0l_11, A0l_12, A0l_13, A0l_14, A0l_15, A0l_16, A0l_17, A0l_18, A0l_19]
      refine ⟨?_, ?_⟩ <;> simp only [ou_a, setA_len, put_len, put_tot, pad_0, tot_nil, List.length_nil, List.length_cons, A0l_0, A0l_1, A0l_2, A0l_3, A0l_4, A0l_5, A0l_6, A0l_7, A0l_8, A0l_9, A0l_10, A0l_11, A0l_12, A0l_13, A0l_14, A0l_15, A0l_16, A0l_17, A0l_18, A0l_19] <;> simp [setA_len, put_len, put_tot, pad_0, tot_nil, List.length_nil, List.length_cons, A0l_0, A0l_1, A0l_2, A0l_3, A0l_4, A0l_5, A0l_6, A0l_7, A0l_8, A0l_9, A0l_10, A0l_11, A0l_12, A0l_13, A0l_14, A0l_15, A0l_16, A0l_17, A0l_18, A0l_19]
    by_cases b6 : i2 < i3
    · simp [b1, b2, b3, b4, b5, b6, m0_0, m0_1, m0_4, m0_5, m0_12, m0_13, m0_20, m0_21, m0_28, m0_29, m0_36, m0_37, m0_44, m0_45, m0_52, m0_53, m0_60, m0_61, m0_68, m0_69, m0_75, m0_76, m0_82, m0_83, m0_89, m0_90, m0_96, m0_97, m0_104, m0_105, m0_112, m0_113, m0_120, m0_121, m0_128, m0_129, m0_136, m0_137, m0_144, m0_145, m0_152, m0_153, m0_160, m0_161u, m0_162, m0_163, m0_164, m0_167, m0_168i, m0_169, m0_170, m0_172, m0_175, m0_177i, m0_178, m0_179, m0_180, m0_183, m0_184, m0_185, m0_188, m0_189, m0_190, m0_193, m0_194, m0_195, m0_198, m0_199, m0_200, m0_203, m0_204u, m0_205, m0_206, m0_207, m0_210, m0_211, m0_214, m0_215, m0_216, m0_217, m0_220, m0_223, m0_224, m0_227, m1_0, m1_1, m1_2, m1_5, m1_6, m1_7, m1_10, m1_11u, m1_12, m1_13, m1_15, m1_18, m1_19, m1_22, m1_23, m1_24, m1_25, m1_26, m1_29, m1_30, m1_31, m1_32, m1_33, m1_36, m1_37, m1_38, m1_39, m1_40, m1_43, m1_44, m1_45, m1_46, m1_47, m1_50, m1_51, m1_52, m1_53, m1_54, m1_57, m1_58, m1_59, m1_60, m1_63, m1_66, m2_0, m2_1, m2_4, m2_5, m2_8, m2_11, m2_12, m2_13, m2_14, m2_15, m2_18, m2_19, m2_22, m2_25, m2_27, m2_28, m2_29, m2_30, m2_33, m2_34, m2_35, m2_38, m2_40, m2_41, m2_42, m2_43, m2_46, m2_47, m2_48, m2_51, m2_53, m2_54, m2_56, m2_57, m2_60, m2_62, m2_64, m2_67, m2_69, m2_70, m2_71, m2_73, m2_76, m2_79, m2_81, m2_82, m2_83, m2_84, m2_87, m2_88, m2_89, m2_92, m2_93, m2_94, m2_97, m2_98, m2_99, m2_102, m2_103, m2_105, m2_108, m2_109u, m2_111, m2_113, m2_114, m2_117, m2_118, m2_121, m2_123, m2_124, m2_125, m2_126, m2_129, m2_131, m2_132, m2_133, m2_136, m2_139, m2_140, m3_0, m3_1, m3_4, m3_7, m3_9, m3_10, m3_11, m3_14u, m3_15, m3_16, m3_18, m3_21, m3_22, m3_23, m3_26, m3_27, m3_28, m3_29, m3_30, m3_33, m3_34, m3_37, m3_40u, m3_41, m3_42, m3_45, m3_48, m3_49, m3_50, m3_53, m3_54, m3_55, m3_58, m3_60, m3_61, m3_62, m3_63, m3_66, m3_67, m3_68, m3_69, m3_70, m3_73u, m3_74, m3_75, m3_78, m3_79, m3_80, m3_83, m3_84, m3_85, m3_88, m3_90, m3_91, m3_92, m3_93, m3_94, m3_95, m3_98, m3_99, m3_100, m3_101, m3_102, m3_105, m3_106, m3_107, m3_110, m3_111, m3_112, m3_115, m3_116, m3_117, m3_120, m3_121, m3_124, m3_125, m4_0, m4_1, m4_4, m5_0, m5_1, m5_2, m5_5, m5_8, m5_9, m5_10, m5_11, m5_14, m5_15, m5_16, m6_0, m6_1, m6_4, m6_5, m6_6, m6_9, m6_12, m6_13, m6_16, m6_17, m7_0, m7_1, m7_2, m7_5, m7_8, m7_9, m7_10, m7_11, m7_14, m7_15, m7_16, m8_0, m8_1, m8_4, m9_0, m9_1, m9_4, m10_0, m10_1u, m10_2, m10_3, m10_4, m10_7, m10_10, m10_11, m10_14, m10_15, m10_16, m10_17, m10_20, m10_21, m10_22, m10_25, m10_28, m10_29, m11_0, m11_1, m11_2, m11_5, m11_6, m11_7, m11_10, m11_13, m11_14, m11_15, m11_16, m11_17, m11_20u, m11_21, m11_22, m11_23, m11_26, m11_29, m11_30, m11_31, m11_32, m11_33, m11_34, m11_35, m12_0, m12_1u, m12_2, m12_3u, m12_5, m12_6u, m12_8, m12_10, m12_12, m12_15, m12_17, m12_20, m12_23, m12_24, m12_26, m12_27u, m12_27i, m12_27r, m12_29, m12_31i, m12_32, m12_34i, m12_36, m12_39, m12_42, m12_43, m13_0, m13_1, m13_4, m13_5, m13_6, m13_9, m13_10, m13_11, m13_14, m13_15, m13_16, m13_19, m13_20, m13_21, m13_24, m13_25, m13_26, m13_29, m13_30, m13_31, m13_34, m13_35, m13_36, m13_39, m13_40, m13_41u, m13_42, m13_43, m13_44, m13_47, m13_48, m13_51, m13_52, m13_53, m13_54, m13_55, m13_56, m13_57, m13_60, m13_61, m13_62, m13_63, m13_64, m13_67, m13_68, m13_69, m13_70, m13_71, m13_72, m13_73, m13_76, m13_77, m13_78, m13_79, m13_82, m13_85, m14_0, m14_1, m14_2, m14_5, m14_6u, m14_7, m14_8, m14_9, m14_12, m14_13, m14_14, m14_15, m14_18u, m14_18i, m14_18r, m14_19, m14_20, m14_23, m14_24, m14_25, m14_26, m14_27, m14_28, m14_29, m14_30, m14_33u, m14_33i, m14_33r, m14_35, m14_37, m14_40, m14_41, m14_42, m14_43, m14_46, m14_47, m14_49, m14_50, m14_53, m14_56, m14_57, m15_0, m15_1u, m15_2, m15_3, m15_4, m15_7, m15_8u, m15_8i, m15_8r, m15_9, m15_10u, m15_10i, m15_10r, m15_12, m15_14, m15_15, m15_18, m15_19, m15_22, m15_24, m15_25, m15_26, m15_27, m15_28, m15_29, m15_32, m15_33, m15_36, m15_38, m15_39, m15_40, m15_43, m15_44, m15_47, m15_49, m15_50i, m15_51, m15_54, m15_57, m15_58, m15_61, m15_62, m15_63, m15_64, m15_67, m15_70, m16_0, m16_1u, m16_2, m16_3, m16_6, m16_7, m16_8u, m16_10, m16_11u, m16_13, m16_15, m16_16, m16_19, m16_20, m16_23, m16_25, m16_26, m16_28, m16_31, m16_34, m16_35u, m16_35i, m16_35r, m16_37, m16_39, m16_40, m16_43, m16_44, m16_47, m16_49, m16_50, m16_51, m16_53, m16_54, m16_55u, m16_55i, m16_55r, m16_57, m16_59, m16_62, m16_63, m16_66, m16_68, m16_69, m16_71, m16_74, m16_76, m16_77, m16_80, m16_82i, m16_83, m16_86, m16_89, m16_92, m16_95, m16_96, m17_0, m17_1, m17_4, m17_5, m17_6, m17_7, m17_8u, m17_10, m17_12u, m17_14, m17_15u, m17_17, m17_19, m17_22, m17_25, m17_27, m17_28, m17_31, m17_32, m17_33, m17_36, m17_37, m17_38, m17_40, m17_41, m17_42, m17_43, m17_45, m17_48, m17_49u, m17_49i, m17_49r, m17_51, m17_53, m17_55, m17_58, m17_60, m17_61, m17_63i, m17_65, m17_68, m17_71, m17_72, m18_0, m18_1u, m18_3, m18_4, m18_7, m18_8, m18_9u, m18_11, m18_12u, m18_14, m18_16, m18_17, m18_20, m18_21, m18_24, m18_26, m18_27u, m18_27i, m18_27r, m18_29, m18_30, m18_33, m18_35, m18_36, m18_38, m18_41, m18_43, m18_46, m18_48, m18_49, m18_51, m18_52, m18_53, m18_54, m18_56, m18_57, m18_58, m18_61, m18_63, m18_64, m18_65, m18_66i, m18_68, m18_71, m18_74, m18_76, m19_0, m19_1u, m19_2, m19_3, m19_4, m19_7, m19_8, m19_11, m19_12, m19_13, m19_16, m19_17, m19_18, m19_19, m19_20, m19_23, m19_24, m19_25, m19_28, m19_29, m19_30, m19_31, m19_34, m19_37, m19_38i, m19_39, m19_40, m19_41, m19_44, m19_45, m19_48, m19_49, m19_50, m19_53, m19_54, m19_55, m19_56, m19_59, m19_62, m20_0, m20_3, m20_4, m20_5, m20_8u, m20_10, m20_11, m20_12, m20_15, m20_16, m20_19, m20_20, m20_22, m20_25, m20_27, m20_30, m20_31u, m20_33, m20_34, m20_35, m20_38, m20_39, m20_42, m20_45, m20_46, m20_47, m20_50, m20_51, m20_52, m20_55, m20_56, m20_57, m20_60, m20_61, m20_62, m20_65, m20_67u, m20_69, m20_72, m20_74, m20_75, m20_78, m20_80, m20_82, m20_85, m20_87u, m20_89, m20_92, m20_93u, m20_95, m20_97, m20_98, m20_99, m20_100, m20_102, m20_105u, m20_107, m20_109, m20_111, m20_114, m20_115, m20_116, m20_118, m20_121, m20_122, m20_125, m20_126u, m20_128, m20_130, m20_133u, m20_135, m20_137, m20_139, m20_142, m20_143, m20_146, m20_148, m20_151, m20_152, m20_153, m20_155, m20_158, m20_160, m20_163, m20_164, m20_167, m20_168, m20_171, m20_172, m20_173, m20_175, m20_176, m20_179, m20_181, m20_184, m20_185, m20_188, m20_189, m20_192, m20_193, m20_194, m20_196, m20_197, m20_200, m20_202, m20_205, m20_206, m20_209, m20_210, m20_213, m20_214, m20_215, m20_217, m20_220, m20_222, m20_225, m20_226, m20_229, m20_230, m20_233, m20_234, m20_235, m20_237, m20_240, m20_241, m20_244, m20_245, m20_246, m20_248, m20_251, m20_253, m20_256, m20_257, m20_258, m20_260, m20_261, m20_262, m20_263, m20_265, m20_268u, m20_270, m20_272, m20_275, m20_277, m20_278, m20_281, m20_282, m20_285, m20_287, m20_290, m20_292u, m20_294, m20_296, m20_298, m20_301, m20_302, m20_305, m20_306, nb0, nb1, ou_a, Option.toList_some, Option.toList_none, List.nil_append, List.cons_append, getA_set2, setA_len, inB_iff, A0g_0, A0g_1, A0g_2, A0g_3, A0g_4, A0g_5, A0g_6, A0g_7, A0g_8, A0g_9, A0g_10, A0g_11, A0g_12, A0g_13, A0g_14, A0g_15, A0g_16, A0g_17, A0g_18, A0g_19, A0l_0, A0l_1, A0l_2, A0l_3, A0l_4, A0l_5, A0l_6, A0l_7, A0l_8, A0l_9, A0l_10, A0l_11, A0l_12, A0l_13, A0l_14, A0l_15, A0l_16, A0l_17, A0l_18, A0l_19]
      refine ⟨?_, ?_⟩ <;> simp only [ou_a, setA_len, put_len, put_tot, pad_0, tot_nil, List.length_nil, List.length_cons, A0l_0, A0l_1, A0l_2, A0l_3, A0l_4, A0l_5, A0l_6, A0l_7, A0l_8, A0l_9, A0l_10, A0l_11, A0l_12, A0l_13, A0l_14, A0l_15, A0l_16, A0l_17, A0l_18, A0l_19] <;> simp [setA_len, put_len, put_tot, pad_0, tot_nil, List.length_nil, List.length_cons, A0l_0, A0l_1, A0l_2, A0l_3, A0l_4, A0l_5, A0l_6, A0l_7, A0l_8, A0l_9, A0l_10, A0l_11, A0l_12, A0l_13, A0l_14, A0l_15, A0l_16, A0l_17, A0l_18, A0l_19]
    by_cases b7 : i4 < 1
    · simp [b1, b2, b3, b4, b5, b6, b7, m0_0, m0_1, m0_4, m0_5, m0_12, m0_13, m0_20, m0_21, m0_28, m0_29, m0_36, m0_37, m0_44, m0_45, m0_52, m0_53, m0_60, m0_61, m0_68, m0_69, m0_75, m0_76, m0_82, m0_83, m0_89, m0_90, m0_96, m0_97, m0_104, m0_105, m0_112, m0_113, m0_120, m0_121, m0_128, m0_129, m0_136, m0_137, m0_144, m0_145, m0_152, m0_153, m0_160, m0_161u, m0_162, m0_163, m0_164, m0_167, m0_168i, m0_169, m0_170, m0_172, m0_175, m0_177i, m0_178, m0_179, m0_180, m0_183, m0_184, m0_185, m0_188, m0_189, m0_190, m0_193, m0_194, m0_195, m0_198, m0_199, m0_200, m0_203, m0_204u, m0_205, m0_206, m0_207, m0_210, m0_211, m0_214, m0_215, m0_216, m0_217, m0_220, m0_223, m0_224, m0_227, m1_0, m1_1, m1_2, m1_5, m1_6, m1_7, m1_10, m1_11u, m1_12, m1_13, m1_15, m1_18, m1_19, m1_22, m1_23, m1_24, m1_25, m1_26, m1_29, m1_30, m1_31, m1_32, m1_33, m1_36, m1_37, m1_38, m1_39, m1_40, m1_43, m1_44, m1_45, m1_46, m1_47, m1_50, m1_51, m1_52, m1_53, m1_54, m1_57, m1_58, m1_59, m1_60, m1_63, m1_66, m2_0, m2_1, m2_4, m2_5, m2_8, m2_11, m2_12, m2_13, m2_14, m2_15, m2_18, m2_19, m2_22, m2_25, m2_27, m2_28, m2_29, m2_30, m2_33, m2_34, m2_35, m2_38, m2_40, m2_41, m2_42, m2_43, m2_46, m2_47, m2_48, m2_51, m2_53, m2_54, m2_56, m2_57, m2_60, m2_62, m2_64, m2_67, m2_69, m2_70, m2_71, m2_73, m2_76, m2_79, m2_81, m2_82, m2_83, m2_84, m2_87, m2_88, m2_89, m2_92, m2_93, m2_94, m2_97, m2_98, m2_99, m2_102, m2_103, m2_105, m2_108, m2_109u, m2_111, m2_113, m2_114, m2_117, m2_118, m2_121, m2_123, m2_124, m2_125, m2_126, m2_129, m2_131, m2_132, m2_133, m2_136, m2_139, m2_140, m3_0, m3_1, m3_4, m3_7, m3_9, m3_10, m3_11, m3_14u, m3_15, m3_16, m3_18, m3_21, m3_22, m3_23, m3_26, m3_27, m3_28, m3_29, m3_30, m3_33, m3_34, m3_37, m3_40u, m3_41, m3_42, m3_45, m3_48, m3_49, m3_50, m3_53, m3_54, m3_55, m3_58, m3_60, m3_61, m3_62, m3_63, m3_66, m3_67, m3_68, m3_69, m3_70, m3_73u, m3_74, m3_75, m3_78, m3_79, m3_80, m3_83, m3_84, m3_85, m3_88, m3_90, m3_91, m3_92, m3_93, m3_94, m3_95, m3_98, m3_99, m3_100, m3_101, m3_102, m3_105, m3_106, m3_107, m3_110, m3_111, m3_112, m3_115, m3_116, m3_117, m3_120, m3_121, m3_124, m3_125, m4_0, m4_1, m4_4, m5_0, m5_1, m5_2, m5_5, m5_8, m5_9, m5_10, m5_11, m5_14, m5_15, m5_16, m6_0, m6_1, m6_4, m6_5, m6_6, m6_9, m6_12, m6_13, m6_16, m6_17, m7_0, m7_1, m7_2, m7_5, m7_8, m7_9, m7_10, m7_11, m7_14, m7_15, m7_16, m8_0, m8_1, m8_4, m9_0, m9_1, m9_4, m10_0, m10_1u, m10_2, m10_3, m10_4, m10_7, m10_10, m10_11, m10_14, m10_15, m10_16, m10_17, m10_20, m10_21, m10_22, m10_25, m10_28, m10_29, m11_0, m11_1, m11_2, m11_5, m11_6, m11_7, m11_10, m11_13, m11_14, m11_15, m11_16, m11_17, m11_20u, m11_21, m11_22, m11_23, m11_26, m11_29, m11_30, m11_31, m11_32, m11_33, m11_34, m11_35, m12_0, m12_1u, m12_2, m12_3u, m12_5, m12_6u, m12_8, m12_10, m12_12, m12_15, m12_17, m12_20, m12_23, m12_24, m12_26, m12_27u, m12_27i, m12_27r, m12_29, m12_31i, m12_32, m12_34i, m12_36, m12_39, m12_42, m12_43, m13_0, m13_1, m13_4, m13_5, m13_6, m13_9, m13_10, m13_11, m13_14, m13_15, m13_16, m13_19, m13_20, m13_21, m13_24, m13_25, m13_26, m13_29, m13_30, m13_31, m13_34, m13_35, m13_36, m13_39, m13_40, m13_41u, m13_42, m13_43, m13_44, m13_47, m13_48, m13_51, m13_52, m13_53, m13_54, m13_55, m13_56, m13_57, m13_60, m13_61, m13_62, m13_63, m13_64, m13_67, m13_68, m13_69, m13_70, m13_71, m13_72, m13_73, m13_76, m13_77, m13_78, m13_79, m13_82, m13_85, m14_0, m14_1, m14_2, m14_5, m14_6u, m14_7, m14_8, m14_9, m14_12, m14_13, m14_14, m14_15, m14_18u, m14_18i, m14_18r, m14_19, m14_20, m14_23, m14_24, m14_25, m14_26, m14_27, m14_28, m14_29, m14_30, m14_33u, m14_33i, m14_33r, m14_35, m14_37, m14_40, m14_41, m14_42, m14_43, m14_46, m14_47, m14_49, m14_50, m14_53, m14_56, m14_57, m15_0, m15_1u, m15_2, m15_3, m15_4, m15_7, m15_8u, m15_8i, m15_8r, m15_9, m15_10u, m15_10i, m15_10r, m15_12, m15_14, m15_15, m15_18, m15_19, m15_22, m15_24, m15_25, m15_26, m15_27, m15_28, m15_29, m15_32, m15_33, m15_36, m15_38, m15_39, m15_40, m15_43, m15_44, m15_47, m15_49, m15_50i, m15_51, m15_54, m15_57, m15_58, m15_61, m15_62, m15_63, m15_64, m15_67, m15_70, m16_0, m16_1u, m16_2, m16_3, m16_6, m16_7, m16_8u, m16_10, m16_11u, m16_13, m16_15, m16_16, m16_19, m16_20, m16_23, m16_25, m16_26, m16_28, m16_31, m16_34, m16_35u, m16_35i, m16_35r, m16_37, m16_39, m16_40, m16_43, m16_44, m16_47, m16_49, m16_50, m16_51, m16_53, m16_54, m16_55u, m16_55i, m16_55r, m16_57, m16_59, m16_62, m16_63, m16_66, m16_68, m16_69, m16_71, m16_74, m16_76, m16_77, m16_80, m16_82i, m16_83, m16_86, m16_89, m16_92, m16_95, m16_96, m17_0, m17_1, m17_4, m17_5, m17_6, m17_7, m17_8u, m17_10, m17_12u, m17_14, m17_15u, m17_17, m17_19, m17_22, m17_25, m17_27, m17_28, m17_31, m17_32, m17_33, m17_36, m17_37, m17_38, m17_40, m17_41, m17_42, m17_43, m17_45, m17_48, m17_49u, m17_49i, m17_49r, m17_51, m17_53, m17_55, m17_58, m17_60, m17_61, m17_63i, m17_65, m17_68, m17_71, m17_72, m18_0, m18_1u, m18_3, m18_4, m18_7, m18_8, m18_9u, m18_11, m18_12u, m18_14, m18_16, m18_17, m18_20, m18_21, m18_24, m18_26, m18_27u, m18_27i, m18_27r, m18_29, m18_30, m18_33, m18_35, m18_36, m18_38, m18_41, m18_43, m18_46, m18_48, m18_49, m18_51, m18_52, m18_53, m18_54, m18_56, m18_57, m18_58, m18_61, m18_63, m18_64, m18_65, m18_66i, m18_68, m18_71, m18_74, m18_76, m19_0, m19_1u, m19_2, m19_3, m19_4, m19_7, m19_8, m19_11, m19_12, m19_13, m19_16, m19_17, m19_18, m19_19, m19_20, m19_23, m19_24, m19_25, m19_28, m19_29, m19_30, m19_31, m19_34, m19_37, m19_38i, m19_39, m19_40, m19_41, m19_44, m19_45, m19_48, m19_49, m19_50, m19_53, m19_54, m19_55, m19_56, m19_59, m19_62, m20_0, m20_3, m20_4, m20_5, m20_8u, m20_10, m20_11, m20_12, m20_15, m20_16, m20_19, m20_20, m20_22, m20_25, m20_27, m20_30, m20_31u, m20_33, m20_34, m20_35, m20_38, m20_39, m20_42, m20_45, m20_46, m20_47, m20_50, m20_51, m20_52, m20_55, m20_56, m20_57, m20_60, m20_61, m20_62, m20_65, m20_67u, m20_69, m20_72, m20_74, m20_75, m20_78, m20_80, m20_82, m20_85, m20_87u, m20_89, m20_92, m20_93u, m20_95, m20_97, m20_98, m20_99, m20_100, m20_102, m20_105u, m20_107, m20_109, m20_111, m20_114, m20_115, m20_116, m20_118, m20_121, m20_122, m20_125, m20_126u, m20_128, m20_130, m20_133u, m20_135, m20_137, m20_139, m20_142, m20_143, m20_146, m20_148, m20_151, m20_152, m20_153, m20_155, m20_158, m20_160, m20_163, m20_164, m20_167, m20_168, m20_171, m20_172, m20_173, m20_175, m20_176, m20_179, m20_181, m20_184, m20_185, m20_188, m20_189, m20_192, m20_193, m20_194, m20_196, m20_197, m20_200, m20_202, m20_205, m20_206, m20_209, m20_210, m20_213, m20_214, m20_215, m20_217, m20_220, m20_222, m20_225, m20_226, m20_229, m20_230, m20_233, m20_234, m20_235, m20_237, m20_240, m20_241, m20_244, m20_245, m20_246, m20_248, m20_251, m20_253, m20_256, m20_257, m20_258, m20_260, m20_261, m20_262, m20_263, m20_265, m20_268u, m20_270, m20_272, m20_275, m20_277, m20_278, m20_281, m20_282, m20_285, m20_287, m20_290, m20_292u, m20_294, m20_296, m20_298, m20_301, m20_302, m20_305, m20_306, nb0, nb1, ou_a, Option.toList_some, Option.toList_none, List.nil_append, List.cons_append, getA_set2, setA_len, inB_iff, A0g_0, A0g_1, A0g_2, A0g_3, A0g_4, A0g_5, A0g_6, A0g_7, A0g_8, A0g_9, A0g_10, A0g_11, A0g_12, A0g_13, A0g_14, A0g_15, A0g_16, A0g_17, A0g_18, A0g_19, A0l_0, A0l_1, A0l_2, A0l_3, A0l_4, A0l_5, A0l_6, A0l_7, A0l_8, A0l_9, A0l_10, A0l_11, A0l_12, A0l_13, A0l_14, A0l_15, A0l_16, A0l_17, A0l_18, A0l_19]
      refine ⟨?_, ?_⟩ <;> simp only [ou_a, setA_len, put_len, put_tot, pad_0, tot_nil, List.length_nil, List.length_cons, A0l_0, A0l_1, A0l_2, A0l_3, A0l_4, A0l_5, A0l_6, A0l_7, A0l_8, A0l_9, A0l_10, A0l_11, A0l_12, A0l_13, A0l_14, A0l_15, A0l_16, A0l_17, A0l_18, A0l_19] <;> simp [setA_len, put_len, put_tot, pad_0, tot_nil, List.length_nil, List.length_cons, A0l_0, A0l_1, A0l_2, A0l_3, A0l_4, A0l_5, A0l_6, A0l_7, A0l_8, A0l_9, A0l_10, A0l_11, A0l_12, A0l_13, A0l_14, A0l_15, A0l_16, A0l_17, A0l_18, A0l_19]
    by_cases b8 : 63 < i4
    · simp [b1, b2, b3, b4, b5, b6, b7, b8, m0_0, m0_1, m0_4, m0_5, m0_12, m0_13, m0_20, m0_21, m0_28, m0_29, m0_36, m0_37, m0_44, m0_45, m0_52, m0_53, m0_60, m0_61, m0_68, m0_69, m0_75, m0_76, m0_82, m0_83, m0_89, m0_90, m0_96, m0_97, m0_104, m0_105, m0_112, m0_113, m0_120, m0_121, m0_128, m0_129, m0_136, m0_137, m0_144, m0_145, m0_152, m0_153, m0_160, m0_161u, m0_162, m0_163, m0_164, m0_167, m0_168i, m0_169, m0_170, m0_172, m0_175, m0_177i, m0_178, m0_179, m0_180, m0_183, m0_184, m0_185, m0_188, m0_189, m0_190, m0_193, m0_194, m0_195, m0_198, m0_199, m0_200, m0_203, m0_204u, m0_205, m0_206, m0_207, m0_210, m0_211, m0_214, m0_215, m0_216, m0_217, m0_220, m0_223, m0_224, m0_227, m1_0, m1_1, m1_2, m1_5, m1_6, m1_7, m1_10, m1_11u, m1_12, m1_13, m1_15, m1_18, m1_19, m1_22, m1_23, m1_24, m1_25, m1_26, m1_29, m1_30, m1_31, m1_32, m1_33, m1_36, m1_37, m1_38, m1_39, m1_40, m1_43, m1_44, m1_45, m1_46, m1_47, m1_50, m1_51, m1_52, m1_53, m1_54, m1_57, m1_58, m1_59, m1_60, m1_63, m1_66, m2_0, m2_1, m2_4, m2_5, m2_8, m2_11, m2_12, m2_13, m2_14, m2_15, m2_18, m2_19, m2_22, m2_25, m2_27, m2_28, m2_29, m2_30, m2_33, m2_34, m2_35, m2_38, m2_40, m2_41, m2_42, m2_43, m2_46, m2_47, m2_48, m2_51, m2_53, m2_54, m2_56, m2_57, m2_60, m2_62, m2_64, m2_67, m2_69, m2_70, m2_71, m2_73, m2_76, m2_79, m2_81, m2_82, m2_83, m2_84, m2_87, m2_88, m2_89, m2_92, m2_93, m2_94, m2_97, m2_98, m2_99, m2_102, m2_103, m2_105, m2_108, m2_109u, m2_111, m2_113, m2_114, m2_117, m2_118, m2_121, m2_123, m2_124, m2_125, m2_126, m2_129, m2_131, m2_132, m2_133, m2_136, m2_139, m2_140, m3_0, m3_1, m3_4, m3_7, m3_9, m3_10, m3_11, m3_14u, m3_15, m3_16, m3_18, m3_21, m3_22, m3_23, m3_26, m3_27, m3_28, m3_29, m3_30, m3_33, m3_34, m3_37, m3_40u, m3_41, m3_42, m3_45, m3_48, m3_49, m3_50, m3_53, m3_54, m3_55, m3_58, m3_60, m3_61, m3_62, m3_63, m3_66, m3_67, m3_68, m3_69, m3_70, m3_73u, m3_74, m3_75, m3_78, m3_79, m3_80, m3_83, m3_84, m3_85, m3_88, m3_90, m3_91, m3_92, m3_93, m3_94, m3_95, m3_98, m3_99, m3_100, m3_101, m3_102, m3_105, m3_106, m3_107, m3_110, m3_111, m3_112, m3_115, m3_116, m3_117, m3_120, m3_121, m3_124, m3_125, m4_0, m4_1, m4_4, m5_0, m5_1, m5_2, m5_5, m5_8, m5_9, m5_10, m5_11, m5_14, m5_15, m5_16, m6_0, m6_1, m6_4, m6_5, m6_6, m6_9, m6_12, m6_13, m6_16, m6_17, m7_0, m7_1, m7_2, m7_5, m7_8, m7_9, m7_10, m7_11, m7_14, m7_15, m7_16, m8_0, m8_1, m8_4, m9_0, m9_1, m9_4, m10_0, m10_1u, m10_2, m10_3, m10_4, m10_7, m10_10, m10_11, m10_14, m10_15, m10_16, m10_17, m10_20, m10_21, m10_22, m10_25, m10_28, m10_29, m11_0, m11_1, m11_2, m11_5, m11_6, m11_7, m11_10, m11_13, m11_14, m11_15, m11_16, m11_17, m11_20u, m11_21, m11_22, m11_23, m11_26, m11_29, m11_30, m11_31, m11_32, m11_33, m11_34, m11_35, m12_0, m12_1u, m12_2, m12_3u, m12_5, m12_6u, m12_8, m12_10, m12_12, m12_15, m12_17, m12_20, m12_23, m12_24, m12_26, m12_27u, m12_27i, m12_27r, m12_29, m12_31i, m12_32, m12_34i, m12_36, m12_39, m12_42, m12_43, m13_0, m13_1, m13_4, m13_5, m13_6, m13_9, m13_10, m13_11, m13_14, m13_15, m13_16, m13_19, m13_20, m13_21, m13_24, m13_25, m13_26, m13_29, m13_30, m13_31, m13_34, m13_35, m13_36, m13_39, m13_40, m13_41u, m13_42, m13_43, m13_44, m13_47, m13_48, m13_51, m13_52, m13_53, m13_54, m13_55, m13_56, m13_57, m13_60, m13_61, m13_62, m13_63, m13_64, m13_67, m13_68, m13_69, m13_70, m13_71, m13_72, m13_73, m13_76, m13_77, m13_78, m13_79, m13_82, m13_85, m14_0, m14_1, m14_2, m14_5, m14_6u, m14_7, m14_8, m14_9, m14_12, m14_13, m14_14, m14_15, m14_18u, m14_18i, m14_18r, m14_19, m14_20, m14_23, m14_24, m14_25, m14_26, m14_27, m14_28, m14_29, m14_30, m14_33u, m14_33i, m14_33r, m14_35, m14_37, m14_40, m14_41, m14_42, m14_43, m14_46, m14_47, m14_49, m14_50, m14_53, m14_56, m14_57, m15_0, m15_1u, m15_2, m15_3, m15_4, m15_7, m15_8u, m15_8i, m15_8r, m15_9, m15_10u, m15_10i, m15_10r, m15_12, m15_14, m15_15, m15_18, m15_19, m15_22, m15_24, m15_25, m15_26, m15_27, m15_28, m15_29, m15_32, m15_33, m15_36, m15_38, m15_39, m15_40, m15_43, m15_44, m15_47, m15_49, m15_50i, m15_51, m15_54, m15_57, m15_58, m15_61, m15_62, m15_63, m15_64, m15_67, m15_70, m16_0, m16_1u, m16_2, m16_3, m16_6, m16_7, m16_8u, m16_10, m16_11u, m16_13, m16_15, m16_16, m16_19, m16_20, m16_23, m16_25, m16_26, m16_28, m16_31, m16_34, m16_35u, m16_35i, m16_35r, m16_37, m16_39, m16_40, m16_43, m16_44, m16_47, m16_49, m16_50, m16_51, m16_53, m16_54, m16_55u, m16_55i, m16_55r, m16_57, m16_59, m16_62, m16_63, m16_66, m16_68, m16_69, m16_71, m16_74, m16_76, m16_77, m16_80, m16_82i, m16_83, m16_86, m16_89, m16_92, m16_95, m16_96, m17_0, m17_1, m17_4, m17_5, m17_6, m17_7, m17_8u, m17_10, m17_12u, m17_14, m17_15u, m17_17, m17_19, m17_22, m17_25, m17_27, m17_28, m17_31, m17_32, m17_33, m17_36, m17_37, m17_38, m17_40, m17_41, m17_42, m17_43, m17_45, m17_48, m17_49u, m17_49i, m17_49r, m17_51, m17_53, m17_55, m17_58, m17_60, m17_61, m17_63i, m17_65, m17_68, m17_71, m17_72, m18_0, m18_1u, m18_3, m18_4, m18_7, m18_8, m18_9u, m18_11, m18_12u, m18_14, m18_16, m18_17, m18_20, m18_21, m18_24, m18_26, m18_27u, m18_27i, m18_27r, m18_29, m18_30, m18_33, m18_35, m18_36, m18_38, m18_41, m18_43, m18_46, m18_48, m18_49, m18_51, m18_52, m18_53, m18_54, m18_56, m18_57, m18_58, m18_61, m18_63, m18_64, m18_65, m18_66i, m18_68, m18_71, m18_74, m18_76, m19_0, m19_1u, m19_2, m19_3, m19_4, m19_7, m19_8, m19_11, m19_12, m19_13, m19_16, m19_17, m19_18, m19_19, m19_20, m19_23, m19_24, m19_25, m19_28, m19_29, m19_30, m19_31, m19_34, m19_37, m19_38i, m19_39, m19_40, m19_41, m19_44, m19_45, m19_48, m19_49, m19_50, m19_53, m19_54, m19_55, m19_56, m19_59, m19_62, m20_0, m20_3, m20_4, m20_5, m20_8u, m20_10, m20_11, m20_12, m20_15, m20_16, m20_19, m20_20, m20_22, m20_25, m20_27, m20_30, m20_31u, m20_33, m20_34, m20_35, m20_38, m20_39, m20_42, m20_45, m20_46, m20_47, m20_50, m20_51, m20_52, m20_55, m20_56, m20_57, m20_60, m20_61, m20_62, m20_65, m20_67u, m20_69, m20_72, m20_74, m20_75, m20_78, m20_80, m20_82, m20_85, m20_87u, m20_89, m20_92, m20_93u, m20_95, m20_97, m20_98, m20_99, m20_100, m20_102, m20_105u, m20_107, m20_109, m20_111, m20_114, m20_115, m20_116, m20_118, m20_121, m20_122, m20_125, m20_126u, m20_128, m20_130, m20_133u, m20_135, m20_137, m20_139, m20_142, m20_143, m20_146, m20_148, m20_151, m20_152, m20_153, m20_155, m20_158, m20_160, m20_163, m20_164, m20_167, m20_168, m20_171, m20_172, m20_173, m20_175, m20_176, m20_179, m20_181, m20_184, m20_185, m20_188, m20_189, m20_192, m20_193, m20_194, m20_196, m20_197, m20_200, m20_202, m20_205, m20_206, m20_209, m20_210, m20_213, m20_214, m20_215, m20_217, m20_220, m20_222, m20_225, m20_226, m20_229, m20_230, m20_233, m20_234, m20_235, m20_237, m20_240, m20_241, m20_244, m20_245, m20_246, m20_248, m20_251, m20_253, m20_256, m20_257, m20_258, m20_260, m20_261, m20_262, m20_263, m20_265, m20_268u, m20_270, m20_272, m20_275, m20_277, m20_278, m20_281, m20_282, m20_285, m20_287, m20_290, m20_292u, m20_294, m20_296, m20_298, m20_301, m20_302, m20_305, m20_306, nb0, nb1, ou_a, Option.toList_some, Option.toList_none, List.nil_append, List.cons_append, getA_set2, setA_len, inB_iff, A0g_0, A0g_1, A0g_2, A0g_3, A0g_4, A0g_5, A0g_6, A0g_7, A0g_8, A0g_9, A0g_10, A0g_11, A0g_12, A0g_13, A0g_14, A0g_15, A0g_16, A0g_17, A0g_18, A0g_19, A0l_0, A0l_1, A0l_2, A0l_3, A0l_4, A0l_5, A0l_6, A0l_7, A0l_8, A0l_9, A0l_10, A0l_11, A0l_12, A0l_13, A0l_14, A0l_15, A0l_16, A0l_17, A0l_18, A0l_19]
      refine ⟨?_, ?_⟩ <;> simp only [ou_a, setA_len, put_len, put_tot, pad_0, tot_nil, List.length_nil, List.length_cons, A0l_0, A0l_1, A0l_2, A0l_3, A0l_4, A0l_5, A0l_6, A0l_7, A0l_8, A0l_9, A0l_10, A0l_11, A0l_12, A0l_13, A0l_14, A0l_15, A0l_16, A0l_17, A0l_18, A0l_19] <;> simp [setA_len, put_len, put_tot, pad_0, tot_nil, List.length_nil, List.length_cons, A0l_0, A0l_1, A0l_2, A0l_3, A0l_4, A0l_5, A0l_6, A0l_7, A0l_8, A0l_9, A0l_10, A0l_11, A0l_12, A0l_13, A0l_14, A0l_15, A0l_16, A0l_17, A0l_18, A0l_19]
    have n3 := own_nn b5
    by_cases d : i1 = 1
    · subst d
      simp [b1, b2, b3, b4, b5, b6, b7, b8, n3, own_irr, own_mod1, m0_0, m0_1, m0_4, m0_5, m0_12, m0_13, m0_20, m0_21, m0_28, m0_29, m0_36, m0_37, m0_44, m0_45, m0_52, m0_53, m0_60, m0_61, m0_68, m0_69, m0_75, m0_76, m0_82, m0_83, m0_89, m0_90, m0_96, m0_97, m0_104, m0_105, m0_112, m0_113, m0_120, m0_121, m0_128, m0_129, m0_136, m0_137, m0_144, m0_145, m0_152, m0_153, m0_160, m0_161u, m0_162, m0_163, m0_164, m0_167, m0_168i, m0_169, m0_170, m0_172, m0_175, m0_177i, m0_178, m0_179, m0_180, m0_183, m0_184, m0_185, m0_188, m0_189, m0_190, m0_193, m0_194, m0_195, m0_198, m0_199, m0_200, m0_203, m0_204u, m0_205, m0_206, m0_207, m0_210, m0_211, m0_214, m0_215, m0_216, m0_217, m0_220, m0_223, m0_224, m0_227, m1_0, m1_1, m1_2, m1_5, m1_6, m1_7, m1_10, m1_11u, m1_12, m1_13, m1_15, m1_18, m1_19, m1_22, m1_23, m1_24, m1_25, m1_26, m1_29, m1_30, m1_31, m1_32, m1_33, m1_36, m1_37, m1_38, m1_39, m1_40, m1_43, m1_44, m1_45, m1_46, m1_47, m1_50, m1_51, m1_52, m1_53, m1_54, m1_57, m1_58, m1_59, m1_60, m1_63, m1_66, m2_0, m2_1, m2_4, m2_5, m2_8, m2_11, m2_12, m2_13, m2_14, m2_15, m2_18, m2_19, m2_22, m2_25, m2_27, m2_28, m2_29, m2_30, m2_33, m2_34, m2_35, m2_38, m2_40, m2_41, m2_42, m2_43, m2_46, m2_47, m2_48, m2_51, m2_53, m2_54, m2_56, m2_57, m2_60, m2_62, m2_64, m2_67, m2_69, m2_70, m2_71, m2_73, m2_76, m2_79, m2_81, m2_82, m2_83, m2_84, m2_87, m2_88, m2_89, m2_92, m2_93, m2_94, m2_97, m2_98, m2_99, m2_102, m2_103, m2_105, m2_108, m2_109u, m2_111, m2_113, m2_114, m2_117, m2_118, m2_121, m2_123, m2_124, m2_125, m2_126, m2_129, m2_131, m2_132, m2_133, m2_136, m2_139, m2_140, m3_0, m3_1, m3_4, m3_7, m3_9, m3_10, m3_11, m3_14u, m3_15, m3_16, m3_18, m3_21, m3_22, m3_23, m3_26, m3_27, m3_28, m3_29, m3_30, m3_33, m3_34, m3_37, m3_40u, m3_41, m3_42, m3_45, m3_48, m3_49, m3_50, m3_53, m3_54, m3_55, m3_58, m3_60, m3_61, m3_62, m3_63, m3_66, m3_67, m3_68, m3_69, m3_70, m3_73u, m3_74, m3_75, m3_78, m3_79, m3_80, m3_83, m3_84, m3_85, m3_88, m3_90, m3_91, m3_92, m3_93, m3_94, m3_95, m3_98, m3_99, m3_100, m3_101, m3_102, m3_105, m3_106, m3_107, m3_110, m3_111, m3_112, m3_115, m3_116, m3_117, m3_120, m3_121, m3_124, m3_125, m4_0, m4_1, m4_4, m5_0, m5_1, m5_2, m5_5, m5_8, m5_9, m5_10, m5_11, m5_14, m5_15, m5_16, m6_0, m6_1, m6_4, m6_5, m6_6, m6_9, m6_12, m6_13, m6_16, m6_17, m7_0, m7_1, m7_2, m7_5, m7_8, m7_9, m7_10, m7_11, m7_14, m7_15, m7_16, m8_0, m8_1, m8_4, m9_0, m9_1, m9_4, m10_0, m10_1u, m10_2, m10_3, m10_4, m10_7, m10_10, m10_11, m10_14, m10_15, m10_16, m10_17, m10_20, m10_21, m10_22, m10_25, m10_28, m10_29, m11_0, m11_1, m11_2, m11_5, m11_6, m11_7, m11_10, m11_13, m11_14, m11_15, m11_16, m11_17, m11_20u, m11_21, m11_22, m11_23, m11_26, m11_29, m11_30, m11_31, m11_32, m11_33, m11_34, m11_35, m12_0, m12_1u, m12_2, m12_3u, m12_5, m12_6u, m12_8, m12_10, m12_12, m12_15, m12_17, m12_20, m12_23, m12_24, m12_26, m12_27u, m12_27i, m12_27r, m12_29, m12_31i, m12_32, m12_34i, m12_36, m12_39, m12_42, m12_43, m13_0, m13_1, m13_4, m13_5, m13_6, m13_9, m13_10, m13_11, m13_14, m13_15, m13_16, m13_19, m13_20, m13_21, m13_24, m13_25, m13_26, m13_29, m13_30, m13_31, m13_34, m13_35, m13_36, m13_39, m13_40, m13_41u, m13_42, m13_43, m13_44, m13_47, m13_48, m13_51, m13_52, m13_53, m13_54, m13_55, m13_56, m13_57, m13_60, m13_61, m13_62, m13_63, m13_64, m13_67, m13_68, m13_69, m13_70, m13_71, m13_72, m13_73, m13_76, m13_77, m13_78, m13_79, m13_82, m13_85, m14_0, m14_1, m14_2, m14_5, m14_6u, m14_7, m14_8, m14_9, m14_12, m14_13, m14_14, m14_15, m14_18u, m14_18i, m14_18r, m14_19, m14_20, m14_23, m14_24, m14_25, m14_26, m14_27, m14_28, m14_29, m14_30, m14_33u, m14_33i, m14_33r, m14_35, m14_37, m14_40, m14_41, m14_42, m14_43, m14_46, m14_47, m14_49, m14_50, m14_53, m14_56, m14_57, m15_0, m15_1u, m15_2, m15_3, m15_4, m15_7, m15_8u, m15_8i, m15_8r, m15_9, m15_10u, m15_10i, m15_10r, m15_12, m15_14, m15_15, m15_18, m15_19, m15_22, m15_24, m15_25, m15_26, m15_27, m15_28, m15_29, m15_32, m15_33, m15_36, m15_38, m15_39, m15_40, m15_43, m15_44, m15_47, m15_49, m15_50i, m15_51, m15_54, m15_57, m15_58, m15_61, m15_62, m15_63, m15_64, m15_67, m15_70, m16_0, m16_1u, m16_2, m16_3, m16_6, m16_7, m16_8u, m16_10, m16_11u, m16_13, m16_15, m16_16, m16_19, m16_20, m16_23, m16_25, m16_26, m16_28, m16_31, m16_34, m16_35u, m16_35i, m16_35r, m16_37, m16_39, m16_40, m16_43, m16_44, m16_47, m16_49, m16_50, m16_51, m16_53, m16_54, m16_55u, m16_55i, m16_55r, m16_57, m16_59, m16_62, m16_63, m16_66, m16_68, m16_69, m16_71, m16_74, m16_76, m16_77, m16_80, m16_82i, m16_83, m16_86, m16_89, m16_92, m16_95, m16_96, m17_0, m17_1, m17_4, m17_5, m17_6, m17_7, m17_8u, m17_10, m17_12u, m17_14, m17_15u, m17_17, m17_19, m17_22, m17_25, m17_27, m17_28, m17_31, m17_32, m17_33, m17_36, m17_37, m17_38, m17_40, m17_41, m17_42, m17_43, m17_45, m17_48, m17_49u, m17_49i, m17_49r, m17_51, m17_53, m17_55, m17_58, m17_60, m17_61, m17_63i, m17_65, m17_68, m17_71, m17_72, m18_0, m18_1u, m18_3, m18_4, m18_7, m18_8, m18_9u, m18_11, m18_12u, m18_14, m18_16, m18_17, m18_20, m18_21, m18_24, m18_26, m18_27u, m18_27i, m18_27r, m18_29, m18_30, m18_33, m18_35, m18_36, m18_38, m18_41, m18_43, m18_46, m18_48, m18_49, m18_51, m18_52, m18_53, m18_54, m18_56, m18_57, m18_58, m18_61, m18_63, m18_64, m18_65, m18_66i, m18_68, m18_71, m18_74, m18_76, m19_0, m19_1u, m19_2, m19_3, m19_4, m19_7, m19_8, m19_11, m19_12, m19_13, m19_16, m19_17, m19_18, m19_19, m19_20, m19_23, m19_24, m19_25, m19_28, m19_29, m19_30, m19_31, m19_34, m19_37, m19_38i, m19_39, m19_40, m19_41, m19_44, m19_45, m19_48, m19_49, m19_50, m19_53, m19_54, m19_55, m19_56, m19_59, m19_62, m20_0, m20_3, m20_4, m20_5, m20_8u, m20_10, m20_11, m20_12, m20_15, m20_16, m20_19, m20_20, m20_22, m20_25, m20_27, m20_30, m20_31u, m20_33, m20_34, m20_35, m20_38, m20_39, m20_42, m20_45, m20_46, m20_47, m20_50, m20_51, m20_52, m20_55, m20_56, m20_57, m20_60, m20_61, m20_62, m20_65, m20_67u, m20_69, m20_72, m20_74, m20_75, m20_78, m20_80, m20_82, m20_85, m20_87u, m20_89, m20_92, m20_93u, m20_95, m20_97, m20_98, m20_99, m20_100, m20_102, m20_105u, m20_107, m20_109, m20_111, m20_114, m20_115, m20_116, m20_118, m20_121, m20_122, m20_125, m20_126u, m20_128, m20_130, m20_133u, m20_135, m20_137, m20_139, m20_142, m20_143, m20_146, m20_148, m20_151, m20_152, m20_153, m20_155, m20_158, m20_160, m20_163, m20_164, m20_167, m20_168, m20_171, m20_172, m20_173, m20_175, m20_176, m20_179, m20_181, m20_184, m20_185, m20_188, m20_189, m20_192, m20_193, m20_194, m20_196, m20_197, m20_200, m20_202, m20_205, m20_206, m20_209, m20_210, m20_213, m20_214, m20_215, m20_217, m20_220, m20_222, m20_225, m20_226, m20_229, m20_230, m20_233, m20_234, m20_235, m20_237, m20_240, m20_241, m20_244, m20_245, m20_246, m20_248, m20_251, m20_253, m20_256, m20_257, m20_258, m20_260, m20_261, m20_262, m20_263, m20_265, m20_268u, m20_270, m20_272, m20_275, m20_277, m20_278, m20_281, m20_282, m20_285, m20_287, m20_290, m20_292u, m20_294, m20_296, m20_298, m20_301, m20_302, m20_305, m20_306, nb0, nb1, ou_a, Option.toList_some, Option.toList_none, List.nil_append, List.cons_append, getA_set2, setA_len, inB_iff, A0g_0, A0g_1, A0g_2, A0g_3, A0g_4, A0g_5, A0g_6, A0g_7, A0g_8, A0g_9, A0g_10, A0g_11, A0g_12, A0g_13, A0g_14, A0g_15, A0g_16, A0g_17, A0g_18, A0g_19, A0l_0, A0l_1, A0l_2, A0l_3, A0l_4, A0l_5, A0l_6, A0l_7, A0l_8, A0l_9, A0l_10, A0l_11, A0l_12, A0l_13, A0l_14, A0l_15, A0l_16, A0l_17, A0l_18, A0l_19]
      refine ⟨?_, ?_⟩ <;> simp only [ou_a, setA_len, put_len, put_tot, pad_0, tot_nil, List.length_nil, List.length_cons, A0l_0, A0l_1, A0l_2, A0l_3, A0l_4, A0l_5, A0l_6, A0l_7, A0l_8, A0l_9, A0l_10, A0l_11, A0l_12, A0l_13, A0l_14, A0l_15, A0l_16, A0l_17, A0l_18, A0l_19] <;> simp [setA_len, put_len, put_tot, pad_0, tot_nil, List.length_nil, List.length_cons, A0l_0, A0l_1, A0l_2, A0l_3, A0l_4, A0l_5, A0l_6, A0l_7, A0l_8, A0l_9, A0l_10, A0l_11, A0l_12, A0l_13, A0l_14, A0l_15, A0l_16, A0l_17, A0l_18, A0l_19]
    have d0 := own_ne0 b1
    have d1 := own_1mod (own_gt1 b1 d)
    simp [b1, b2, b3, b4, b5, b6, b7, b8, n3, d, d0, d1, own_irr, own_mod1, m0_0, m0_1, m0_4, m0_5, m0_12, m0_13, m0_20, m0_21, m0_28, m0_29, m0_36, m0_37, m0_44, m0_45, m0_52, m0_53, m0_60, m0_61, m0_68, m0_69, m0_75, m0_76, m0_82, m0_83, m0_89, m0_90, m0_96, m0_97, m0_104, m0_105, m0_112, m0_113, m0_120, m0_121, m0_128, m0_129, m0_136, m0_137, m0_144, m0_145, m0_152, m0_153, m0_160, m0_161u, m0_162, m0_163, m0_164, m0_167, m0_168i, m0_169, m0_170, m0_172, m0_175, m0_177i, m0_178, m0_179, m0_180, m0_183, m0_184, m0_185, m0_188, m0_189, m0_190, m0_193, m0_194, m0_195, m0_198, m0_199, m0_200, m0_203, m0_204u, m0_205, m0_206, m0_207, m0_210, m0_211, m0_214, m0_215, m0_216, m0_217, m0_220, m0_223, m0_224, m0_227, m1_0, m1_1, m1_2, m1_5, m1_6, m1_7, m1_10, m1_11u, m1_12, m1_13, m1_15, m1_18, m1_19, m1_22, m1_23, m1_24, m1_25, m1_26, m1_29, m1_30, m1_31, m1_32, m1_33, m1_36, m1_37, m1_38, m1_39, m1_40, m1_43, m1_44, m1_45, m1_46, m1_47, m1_50, m1_51, m1_52, m1_53, m1_54, m1_57, m1_58, m1_59, m1_60, m1_63, m1_66, m2_0, m2_1, m2_4, m2_5, m2_8, m2_11, m2_12, m2_13, m2_14, m2_15, m2_18, m2_19, m2_22, m2_25, m2_27, m2_28, m2_29, m2_30, m2_33, m2_34, m2_35, m2_38, m2_40, m2_41, m2_42, m2_43, m2_46, m2_47, m2_48, m2_51, m2_53, m2_54, m2_56, m2_57, m2_60, m2_62, m2_64, m2_67, m2_69, m2_70, m2_71, m2_73, m2_76, m2_79, m2_81, m2_82, m2_83, m2_84, m2_87, m2_88, m2_89, m2_92, m2_93, m2_94, m2_97, m2_98, m2_99, m2_102, m2_103, m2_105, m2_108, m2_109u, m2_111, m2_113, m2_114, m2_117, m2_118, m2_121, m2_123, m2_124, m2_125, m2_126, m2_129, m2_131, m2_132, m2_133, m2_136, m2_139, m2_140, m3_0, m3_1, m3_4, m3_7, m3_9, m3_10, m3_11, m3_14u, m3_15, m3_16, m3_18, m3_21, m3_22, m3_23, m3_26, m3_27, m3_28, m3_29, m3_30, m3_33, m3_34, m3_37, m3_40u, m3_41, m3_42, m3_45, m3_48, m3_49, m3_50, m3_53, m3_54, m3_55, m3_58, m3_60, m3_61, m3_62, m3_63, m3_66, m3_67, m3_68, m3_69, m3_70, m3_73u, m3_74, m3_75, m3_78, m3_79, m3_80, m3_83, m3_84, m3_85, m3_88, m3_90, m3_91, m3_92, m3_93, m3_94, m3_95, m3_98, m3_99, m3_100, m3_101, m3_102, m3_105, m3_106, m3_107, m3_110, m3_111, m3_112, m3_115, m3_116, m3_117, m3_120, m3_121, m3_124, m3_125, m4_0, m4_1, m4_4, m5_0, m5_1, m5_2, m5_5, m5_8, m5_9, m5_10, m5_11, m5_14, m5_15, m5_16, m6_0, m6_1, m6_4, m6_5, m6_6, m6_9, m6_12, m6_13, m6_16, m6_17, m7_0, m7_1, m7_2, m7_5, m7_8, m7_9, m7_10, m7_11, m7_14, m7_15, m7_16, m8_0, m8_1, m8_4, m9_0, m9_1, m9_4, m10_0, m10_1u, m10_2, m10_3, m10_4, m10_7, m10_10, m10_11, m10_14, m10_15, m10_16, m10_17, m10_20, m10_21, m10_22, m10_25, m10_28, m10_29, m11_0, m11_1, m11_2, m11_5, m11_6, m11_7, m11_10, m11_13, m11_14, m11_15, m11_16, m11_17, m11_20u, m11_21, m11_22, m11_23, m11_26, m11_29, m11_30, m11_31, m11_32, m11_33, m11_34, m11_35, m12_0, m12_1u, m12_2, m12_3u, m12_5, m12_6u, m12_8, m12_10, m12_12, m12_15, m12_17, m12_20, m12_23, m12_24, m12_26, m12_27u, m12_27i, m12_27r, m12_29, m12_31i, m12_32, m12_34i, m12_36, m12_39, m12_42, m12_43, m13_0, m13_1, m13_4, m13_5, m13_6, m13_9, m13_10, m13_11, m13_14, m13_15, m13_16, m13_19, m13_20, m13_21, m13_24, m13_25, m13_26, m13_29, m13_30, m13_31, m13_34, m13_35, m13_36, m13_39, m13_40, m13_41u, m13_42, m13_43, m13_44, m13_47, m13_48, m13_51, m13_52, m13_53, m13_54, m13_55, m13_56, m13_57, m13_60, m13_61, m13_62, m13_63, m13_64, m13_67, m13_68, m13_69, m13_70, m13_71, m13_72, m13_73, m13_76, m13_77, m13_78, m13_79, m13_82, m13_85, m14_0, m14_1, m14_2, m14_5, m14_6u, m14_7, m14_8, m14_9, m14_12, m14_13, m14_14, m14_15, m14_18u, m14_18i, m14_18r, m14_19, m14_20, m14_23, m14_24, m14_25, m14_26, m14_27, m14_28, m14_29, m14_30, m14_33u, m14_33i, m14_33r, m14_35, m14_37, m14_40, m14_41, m14_42, m14_43, m14_46, m14_47, m14_49, m14_50, m14_53, m14_56, m14_57, m15_0, m15_1u, m15_2, m15_3, m15_4, m15_7, m15_8u, m15_8i, m15_8r, m15_9, m15_10u, m15_10i, m15_10r, m15_12, m15_14, m15_15, m15_18, m15_19, m15_22, m15_24, m15_25, m15_26, m15_27, m15_28, m15_29, m15_32, m15_33, m15_36, m15_38, m15_39, m15_40, m15_43, m15_44, m15_47, m15_49, m15_50i, m15_51, m15_54, m15_57, m15_58, m15_61, m15_62, m15_63, m15_64, m15_67, m15_70, m16_0, m16_1u, m16_2, m16_3, m16_6, m16_7, m16_8u, m16_10, m16_11u, m16_13, m16_15, m16_16, m16_19, m16_20, m16_23, m16_25, m16_26, m16_28, m16_31, m16_34, m16_35u, m16_35i, m16_35r, m16_37, m16_39, m16_40, m16_43, m16_44, m16_47, m16_49, m16_50, m16_51, m16_53, m16_54, m16_55u, m16_55i, m16_55r, m16_57, m16_59, m16_62, m16_63, m16_66, m16_68, m16_69, m16_71, m16_74, m16_76, m16_77, m16_80, m16_82i, m16_83, m16_86, m16_89, m16_92, m16_95, m16_96, m17_0, m17_1, m17_4, m17_5, m17_6, m17_7, m17_8u, m17_10, m17_12u, m17_14, m17_15u, m17_17, m17_19, m17_22, m17_25, m17_27, m17_28, m17_31, m17_32, m17_33, m17_36, m17_37, m17_38, m17_40, m17_41, m17_42, m17_43, m17_45, m17_48, m17_49u, m17_49i, m17_49r, m17_51, m17_53, m17_55, m17_58, m17_60, m17_61, m17_63i, m17_65, m17_68, m17_71, m17_72, m18_0, m18_1u, m18_3, m18_4, m18_7, m18_8, m18_9u, m18_11, m18_12u, m18_14, m18_16, m18_17, m18_20, m18_21, m18_24, m18_26, m18_27u, m18_27i, m18_27r, m18_29, m18_30, m18_33, m18_35, m18_36, m18_38, m18_41, m18_43, m18_46, m18_48, m18_49, m18_51, m18_52, m18_53, m18_54, m18_56, m18_57, m18_58, m18_61, m18_63, m18_64, m18_65, m18_66i, m18_68, m18_71, m18_74, m18_76, m19_0, m19_1u, m19_2, m19_3, m19_4, m19_7, m19_8, m19_11, m19_12, m19_13, m19_16, m19_17, m19_18, m19_19, m19_20, m19_23, m19_24, m19_25, m19_28, m19_29, m19_30, m19_31, m19_34, m19_37, m19_38i, m19_39, m19_40, m19_41, m19_44, m19_45, m19_48, m19_49, m19_50, m19_53, m19_54, m19_55, m19_56, m19_59, m19_62, m20_0, m20_3, m20_4, m20_5, m20_8u, m20_10, m20_11, m20_12, m20_15, m20_16, m20_19, m20_20, m20_22, m20_25, m20_27, m20_30, m20_31u, m20_33, m20_34, m20_35, m20_38, m20_39, m20_42, m20_45, m20_46, m20_47, m20_50, m20_51, m20_52, m20_55, m20_56, m20_57, m20_60, m20_61, m20_62, m20_65, m20_67u, m20_69, m20_72, m20_74, m20_75, m20_78, m20_80, m20_82, m20_85, m20_87u, m20_89, m20_92, m20_93u, m20_95, m20_97, m20_98, m20_99, m20_100, m20_102, m20_105u, m20_107, m20_109, m20_111, m20_114, m20_115, m20_116, m20_118, m20_121, m20_122, m20_125, m20_126u, m20_128, m20_130, m20_133u, m20_135, m20_137, m20_139, m20_142, m20_143, m20_146, m20_148, m20_151, m20_152, m20_153, m20_155, m20_158, m20_160, m20_163, m20_164, m20_167, m20_168, m20_171, m20_172, m20_173, m20_175, m20_176, m20_179, m20_181, m20_184, m20_185, m20_188, m20_189, m20_192, m20_193, m20_194, m20_196, m20_197, m20_200, m20_202, m20_205, m20_206, m20_209, m20_210, m20_213, m20_214, m20_215, m20_217, m20_220, m20_222, m20_225, m20_226, m20_229, m20_230, m20_233, m20_234, m20_235, m20_237, m20_240, m20_241, m20_244, m20_245, m20_246, m20_248, m20_251, m20_253, m20_256, m20_257, m20_258, m20_260, m20_261, m20_262, m20_263, m20_265, m20_268u, m20_270, m20_272, m20_275, m20_277, m20_278, m20_281, m20_282, m20_285, m20_287, m20_290, m20_292u, m20_294, m20_296, m20_298, m20_301, m20_302, m20_305, m20_306, nb0, nb1, ou_a, Option.toList_some, Option.toList_none, List.nil_append, List.cons_append, getA_set2, setA_len, inB_iff, A0g_0, A0g_1, A0g_2, A0g_3, A0g_4, A0g_5, A0g_6, A0g_7, A0g_8, A0g_9, A0g_10, A0g_11, A0g_12, A0g_13, A0g_14, A0g_15, A0g_16, A0g_17, A0g_18, A0g_19, A0l_0, A0l_1, A0l_2, A0l_3, A0l_4, A0l_5, A0l_6, A0l_7, A0l_8, A0l_9, A0l_10, A0l_11, A0l_12, A0l_13, A0l_14, A0l_15, A0l_16, A0l_17, A0l_18, A0l_19]
    refine ⟨?_, ?_⟩ <;> simp only [ou_a, setA_len, put_len, put_tot, pad_0, tot_nil, List.length_nil, List.length_cons, A0l_0, A0l_1, A0l_2, A0l_3, A0l_4, A0l_5, A0l_6, A0l_7, A0l_8, A0l_9, A0l_10, A0l_11, A0l_12, A0l_13, A0l_14, A0l_15, A0l_16, A0l_17, A0l_18, A0l_19] <;> simp [setA_len, put_len, put_tot, pad_0, tot_nil, List.length_nil, List.length_cons, A0l_0, A0l_1, A0l_2, A0l_3, A0l_4, A0l_5, A0l_6, A0l_7, A0l_8, A0l_9, A0l_10, A0l_11, A0l_12, A0l_13, A0l_14, A0l_15, A0l_16, A0l_17, A0l_18, A0l_19]
  have a4 := own_pos a1
  have a5 := own_gt1 a1 a3
  by_cases b1 : i1 < 1
  · simp [a1, a2, a3, a4, a5, b1, m0_0, m0_1, m0_4, m0_5, m0_12, m0_13, m0_20, m0_21, m0_28, m0_29, m0_36, m0_37, m0_44, m0_45, m0_52, m0_53, m0_60, m0_61, m0_68, m0_69, m0_75, m0_76, m0_82, m0_83, m0_89, m0_90, m0_96, m0_97, m0_104, m0_105, m0_112, m0_113, m0_120, m0_121, m0_128, m0_129, m0_136, m0_137, m0_144, m0_145, m0_152, m0_153, m0_160, m0_161u, m0_162, m0_163, m0_164, m0_167, m0_168i, m0_169, m0_170, m0_172, m0_175, m0_177i, m0_178, m0_179, m0_180, m0_183, m0_184, m0_185, m0_188, m0_189, m0_190, m0_193, m0_194, m0_195, m0_198, m0_199, m0_200, m0_203, m0_204u, m0_205, m0_206, m0_207, m0_210, m0_211, m0_214, m0_215, m0_216, m0_217, m0_220, m0_223, m0_224, m0_227, m1_0, m1_1, m1_2, m1_5, m1_6, m1_7, m1_10, m1_11u, m1_12, m1_13, m1_15, m1_18, m1_19, m1_22, m1_23, m1_24, m1_25, m1_26, m1_29, m1_30, m1_31, m1_32, m1_33, m1_36, m1_37, m1_38, m1_39, m1_40, m1_43, m1_44, m1_45, m1_46, m1_47, m1_50, m1_51, m1_52, m1_53, m1_54, m1_57, m1_58, m1_59, m1_60, m1_63, m1_66, m2_0, m2_1, m2_4, m2_5, m2_8, m2_11, m2_12, m2_13, m2_14, m2_15, m2_18, m2_19, m2_22, m2_25, m2_27, m2_28, m2_29, m2_30, m2_33, m2_34, m2_35, m2_38, m2_40, m2_41, m2_42, m2_43, m2_46, m2_47, m2_48, m2_51, m2_53, m2_54, m2_56, m2_57, m2_60, m2_62, m2_64, m2_67, m2_69, m2_70, m2_71, m2_73, m2_76, m2_79, m2_81, m2_82, m2_83, m2_84, m2_87, m2_88, m2_89, m2_92, m2_93, m2_94, m2_97, m2_98, m2_99, m2_102, m2_103, m2_105, m2_108, m2_109u, m2_111, m2_113, m2_114, m2_117, m2_118, m2_121, m2_123, m2_124, m2_125, m2_126, m2_129, m2_131, m2_132, m2_133, m2_136, m2_139, m2_140, m3_0, m3_1, m3_4, m3_7, m3_9, m3_10, m3_11, m3_14u, m3_15, m3_16, m3_18, m3_21, m3_22, m3_23, m3_26, m3_27, m3_28, m3_29, m3_30, m3_33, m3_34, m3_37, m3_40u, m3_41, m3_42, m3_45, m3_48, m3_49, m3_50, m3_53, m3_54, m3_55, m3_58, m3_60, m3_61, m3_62, m3_63, m3_66, m3_67, m3_68, m3_69, m3_70, m3_73u, m3_74, m3_75, m3_78, m3_79, m3_80, m3_83, m3_84, m3_85, m3_88, m3_90, m3_91, m3_92, m3_93, m3_94, m3_95, m3_98, m3_99, m3_100, m3_101, m3_102, m3_105, m3_106, m3_107, m3_110, m3_111, m3_112, m3_115, m3_116, m3_117, m3_120, m3_121, m3_124, m3_125, m4_0, m4_1, m4_4, m5_0, m5_1, m5_2, m5_5, m5_8, m5_9, m5_10, m5_11, m5_14, m5_15, m5_16, m6_0, m6_1, m6_4, m6_5, m6_6, m6_9, m6_12, m6_13, m6_16, m6_17, m7_0, m7_1, m7_2, m7_5, m7_8, m7_9, m7_10, m7_11, m7_14, m7_15, m7_16, m8_0, m8_1, m8_4, m9_0, m9_1, m9_4, m10_0, m10_1u, m10_2, m10_3, m10_4, m10_7, m10_10, m10_11, m10_14, m10_15, m10_16, m10_17, m10_20, m10_21, m10_22, m10_25, m10_28, m10_29, m11_0, m11_1, m11_2, m11_5, m11_6, m11_7, m11_10, m11_13, m11_14, m11_15, m11_16, m11_17, m11_20u, m11_21, m11_22, m11_23, m11_26, m11_29, m11_30, m11_31, m11_32, m11_33, m11_34, m11_35, m12_0, m12_1u, m12_2, m12_3u, m12_5, m12_6u, m12_8, m12_10, m12_12, m12_15, m12_17, m12_20, m12_23, m12_24, m12_26, m12_27u, m12_27i, m12_27r, m12_29, m12_31i, m12_32, m12_34i, m12_36, m12_39, m12_42, m12_43, m13_0, m13_1, m13_4, m13_5, m13_6, m13_9, m13_10, m13_11, m13_14, m13_15, m13_16, m13_19, m13_20, m13_21, m13_24, m13_25, m13_26, m13_29, m13_30, m13_31, m13_34, m13_35, m13_36, m13_39, m13_40, m13_41u, m13_42, m13_43, m13_44, m13_47, m13_48, m13_51, m13_52, m13_53, m13_54, m13_55, m13_56, m13_57, m13_60, m13_61, m13_62, m13_63, m13_64, m13_67, m13_68, m13_69, m13_70, m13_71, m13_72, m13_73, m13_76, m13_77, m13_78, m13_79, m13_82, m13_85, m14_0, m14_1, m14_2, m14_5, m14_6u, m14_7, m14_8, m14_9, m14_12, m14_13, m14_14, m14_15, m14_18u, m14_18i, m14_18r, m14_19, m14_20, m14_23, m14_24, m14_25, m14_26, m14_27, m14_28, m14_29, m14_30, m14_33u, m14_33i, m14_33r, m14_35, m14_37, m14_40, m14_41, m14_42, m14_43, m14_46, m14_47, m14_49, m14_50, m14_53, m14_56, m14_57, m15_0, m15_1u, m15_2, m15_3, m15_4, m15_7, m15_8u, m15_8i, m15_8r, m15_9, m15_10u, m15_10i, m15_10r, m15_12, m15_14, m15_15, m15_18, m15_19, m15_22, m15_24, m15_25, m15_26, m15_27, m15_28, m15_29, m15_32, m15_33, m15_36, m15_38, m15_39, m15_40, m15_43, m15_44, m15_47, m15_49, m15_50i, m15_51, m15_54, m15_57, m15_58, m15_61, m15_62, m15_63, m15_64, m15_67, m15_70, m16_0, m16_1u, m16_2, m16_3, m16_6, m16_7, m16_8u, m16_10, m16_11u, m16_13, m16_15, m16_16, m16_19, m16_20, m16_23, m16_25, m16_26, m16_28, m16_31, m16_34, m16_35u, m16_35i, m16_35r, m16_37, m16_39, m16_40, m16_43, m16_44, m16_47, m16_49, m16_50, m16_51, m16_53, m16_54, m16_55u, m16_55i, m16_55r, m16_57, m16_59, m16_62, m16_63, m16_66, m16_68, m16_69, m16_71, m16_74, m16_76, m16_77, m16_80, m16_82i, m16_83, m16_86, m16_89, m16_92, m16_95, m16_96, m17_0, m17_1, m17_4, m17_5, m17_6, m17_7, m17_8u, m17_10, m17_12u, m17_14, m17_15u, m17_17, m17_19, m17_22, m17_25, m17_27, m17_28, m17_31, m17_32, m17_33, m17_36, m17_37, m17_38, m17_40, m17_41, m17_42, m17_43, m17_45, m17_48, m17_49u, m17_49i, m17_49r, m17_51, m17_53, m17_55, m17_58, m17_60, m17_61, m17_63i, m17_65, m17_68, m17_71, m17_72, m18_0, m18_1u, m18_3, m18_4, m18_7, m18_8, m18_9u, m18_11, m18_12u, m18_14, m18_16, m18_17, m18_20, m18_21, m18_24, m18_26, m18_27u, m18_27i, m18_27r, m18_29, m18_30, m18_33, m18_35, m18_36, m18_38, m18_41, m18_43, m18_46, m18_48, m18_49, m18_51, m18_52, m18_53, m18_54, m18_56, m18_57, m18_58, m18_61, m18_63, m18_64, m18_65, m18_66i, m18_68, m18_71, m18_74, m18_76, m19_0, m19_1u, m19_2, m19_3, m19_4, m19_7, m19_8, m19_11, m19_12, m19_13, m19_16, m19_17, m19_18, m19_19, m19_20, m19_23, m19_24, m19_25, m19_28, m19_29, m19_30, m19_31, m19_34, m19_37, m19_38i, m19_39, m19_40, m19_41, m19_44, m19_45, m19_48, m19_49, m19_50, m19_53, m19_54, m19_55, m19_56, m19_59, m19_62, m20_0, m20_3, m20_4, m20_5, m20_8u, m20_10, m20_11, m20_12, m20_15, m20_16, m20_19, m20_20, m20_22, m20_25, m20_27, m20_30, m20_31u, m20_33, m20_34, m20_35, m20_38, m20_39, m20_42, m20_45, m20_46, m20_47, m20_50, m20_51, m20_52, m20_55, m20_56, m20_57, m20_60, m20_61, m20_62, m20_65, m20_67u, m20_69, m20_72, m20_74, m20_75, m20_78, m20_80, m20_82, m20_85, m20_87u, m20_89, m20_92, m20_93u, m20_95, m20_97, m20_98, m20_99, m20_100, m20_102, m20_105u, m20_107, m20_109, m20_111, m20_114, m20_115, m20_116, m20_118, m20_121, m20_122, m20_125, m20_126u, m20_128, m20_130, m20_133u, m20_135, m20_137, m20_139, m20_142, m20_143, m20_146, m20_148, m20_151, m20_152, m20_153, m20_155, m20_158, m20_160, m20_163, m20_164, m20_167, m20_168, m20_171, m20_172, m20_173, m20_175, m20_176, m20_179, m20_181, m20_184, m20_185, m20_188, m20_189, m20_192, m20_193, m20_194, m20_196, m20_197, m20_200, m20_202, m20_205, m20_206, m20_209, m20_210, m20_213, m20_214, m20_215, m20_217, m20_220, m20_222, m20_225, m20_226, m20_229, m20_230, m20_233, m20_234, m20_235, m20_237, m20_240, m20_241, m20_244, m20_245, m20_246, m20_248, m20_251, m20_253, m20_256, m20_257, m20_258, m20_260, m20_261, m20_262, m20_263, m20_265, m20_268u, m20_270, m20_272, m20_275, m20_277, m20_278, m20_281, m20_282, m20_285, m20_287, m20_290, m20_292u, m20_294, m20_296, m20_298, m20_301, m20_302, m20_305, m20_306, nb0, nb1, ou_a, Option.toList_some, Option.toList_none, List.nil_append, List.cons_append, getA_set2, setA_len, inB_iff, A0g_0, A0g_1, A0g_2, A0g_3, A0g_4, A0g_5, A0g_6, A0g_7, A0g_8, A0g_9, A0g_10, A0g_11, A0g_12, A0g_13, A0g_14, A0g_15, A0g_16, A0g_17, A0g_18, A0g_19, A0l_0, A0l_1, A0l_2, A0l_3, A0l_4, A0l_5, A0l_6, A0l_7, A0l_8, A0l_9, A0l_10, A0l_11, A0l_12, A0l_13, A0l_14, A0l_15, A0l_16, A0l_17, A0l_18, A0l_19]
    refine ⟨?_, ?_⟩ <;> simp only [ou_a, setA_len, put_len, put_tot, pad_0, tot_nil, List.length_nil, List.length_cons, A0l_0, A0l_1, A0l_2, A0l_3, A0l_4, A0l_5, A0l_6, A0l_7, A0l_8, A0l_9, A0l_10, A0l_11, A0l_12, A0l_13, A0l_14, A0l_15, A0l_16, A0l_17, A0l_18, A0l_19] <;> simp [setA_len, put_len, put_tot, pad_0, tot_nil, List.length_nil, List.length_cons, A0l_0, A0l_1, A0l_2, A0l_3, A0l_4, A0l_5, A0l_6, A0l_7, A0l_8, A0l_9, A0l_10, A0l_11, A0l_12, A0l_13, A0l_14, A0l_15, A0l_16, A0l_17, A0l_18, A0l_19]
  by_cases b2 : 840 < i1
  · simp [a1, a2, a3, a4, a5, b1, b2, m0_0, m0_1, m0_4, m0_5, m0_12, m0_13, m0_20, m0_21, m0_28, m0_29, m0_36, m0_37, m0_44, m0_45, m0_52, m0_53, m0_60, m0_61, m0_68, m0_69, m0_75, m0_76, m0_82, m0_83, m0_89, m0_90, m0_96, m0_97, m0_104, m0_105, m0_112, m0_113, m0_120, m0_121, m0_128, m0_129, m0_136, m0_137, m0_144, m0_145, m0_152, m0_153, m0_160, m0_161u, m0_162, m0_163, m0_164, m0_167, m0_168i, m0_169, m0_170, m0_172, m0_175, m0_177i, m0_178, m0_179, m0_180, m0_183, m0_184, m0_185, m0_188, m0_189, m0_190, m0_193, m0_194, m0_195, m0_198, m0_199, m0_200, m0_203, m0_204u, m0_205, m0_206, m0_207, m0_210, m0_211, m0_214, m0_215, m0_216, m0_217, m0_220, m0_223, m0_224, m0_227, m1_0, m1_1, m1_2, m1_5, m1_6, m1_7, m1_10, m1_11u, m1_12, m1_13, m1_15, m1_18, m1_19, m1_22, m1_23, m1_24, m1_25, m1_26, m1_29, m1_30, m1_31, m1_32, m1_33, m1_36, m1_37, m1_38, m1_39, m1_40, m1_43, m1_44, m1_45, m1_46, m1_47, m1_50, m1_51, m1_52, m1_53, m1_54, m1_57, m1_58, m1_59, m1_60, m1_63, m1_66, m2_0, m2_1, m2_4, m2_5, m2_8, m2_11, m2_12, m2_13, m2_14, m2_15, m2_18, m2_19, m2_22, m2_25, m2_27, m2_28, m2_29, m2_30, m2_33, m2_34, m2_35, m2_38, m2_40, m2_41, m2_42, m2_43, m2_46, m2_47, m2_48, m2_51, m2_53, m2_54, m2_56, m2_57, m2_60, m2_62, m2_64, m2_67, m2_69, m2_70, m2_71, m2_73, m2_76, m2_79, m2_81, m2_82, m2_83, m2_84, m2_87, m2_88, m2_89, m2_92, m2_93, m2_94, m2_97, m2_98, m2_99, m2_102, m2_103, m2_105, m2_108, m2_109u, m2_111, m2_113, m2_114, m2_117, m2_118, m2_121, m2_123, m2_124, m2_125, m2_126, m2_129, m2_131, m2_132, m2_133, m2_136, m2_139, m2_140, m3_0, m3_1, m3_4, m3_7, m3_9, m3_10, m3_11, m3_14u, m3_15, m3_16, m3_18, m3_21, m3_22, m3_23, m3_26, m3_27, m3_28, m3_29, m3_30, m3_33, m3_34, m3_37, m3_40u, m3_41, m3_42, m3_45, m3_48, m3_49, m3_50, m3_53, m3_54, m3_55, m3_58, m3_60, m3_61, m3_62, m3_63, m3_66, m3_67, m3_68, m3_69, m3_70, m3_73u, m3_74, m3_75, m3_78, m3_79, m3_80, m3_83, m3_84, m3_85, m3_88, m3_90, m3_91, m3_92, m3_93, m3_94, m3_95, m3_98, m3_99, m3_100, m3_101, m3_102, m3_105, m3_106, m3_107, m3_110, m3_111, m3_112, m3_115, m3_116, m3_117, m3_120, m3_121, m3_124, m3_125, m4_0, m4_1, m4_4, m5_0, m5_1, m5_2, m5_5, m5_8, m5_9, m5_10, m5_11, m5_14, m5_15, m5_16, m6_0, m6_1, m6_4, m6_5, m6_6, m6_9, m6_12, m6_13, m6_16, m6_17, m7_0, m7_1, m7_2, m7_5, m7_8, m7_9, m7_10, m7_11, m7_14, m7_15, m7_16, m8_0, m8_1, m8_4, m9_0, m9_1, m9_4, m10_0, m10_1u, m10_2, m10_3, m10_4, m10_7, m10_10, m10_11, m10_14, m10_15, m10_16, m10_17, m10_20, m10_21, m10_22, m10_25, m10_28, m10_29, m11_0, m11_1, m11_2, m11_5, m11_6, m11_7, m11_10, m11_13, m11_14, m11_15, m11_16, m11_17, m11_20u, m11_21, m11_22, m11_23, m11_26, m11_29, m11_30, m11_31, m11_32, m11_33, m11_34, m11_35, m12_0, m12_1u, m12_2, m12_3u, m12_5, m12_6u, m12_8, m12_10, m12_12, m12_15, m12_17, m12_20, m12_23, m12_24, m12_26, m12_27u, m12_27i, m12_27r, m12_29, m12_31i, m12_32, m12_34i, m12_36, m12_39, m12_42, m12_43, m13_0, m13_1, m13_4, m13_5, m13_6, m13_9, m13_10, m13_11, m13_14, m13_15, m13_16, m13_19, m13_20, m13_21, m13_24, m13_25, m13_26, m13_29, m13_30, m13_31, m13_34, m13_35, m13_36, m13_39, m13_40, m13_41u, m13_42, m13_43, m13_44, m13_47, m13_48, m13_51, m13_52, m13_53, m13_54, m13_55, m13_56, m13_57, m13_60, m13_61, m13_62, m13_63, m13_64, m13_67, m13_68, m13_69, m13_70, m13_71, m13_72, m13_73, m13_76, m13_77, m13_78, m13_79, m13_82, m13_85, m14_0, m14_1, m14_2, m14_5, m14_6u, m14_7, m14_8, m14_9, m14_12, m14_13, m14_14, m14_15, m14_18u, m14_18i, m14_18r, m14_19, m14_20, m14_23, m14_24, m14_25, m14_26, m14_27, m14_28, m14_29, m14_30, m14_33u, m14_33i, m14_33r, m14_35, m14_37, m14_40, m14_41, m14_42, m14_43, m14_46, m14_47, m14_49, m14_50, m14_53, m14_56, m14_57, m15_0, m15_1u, m15_2, m15_3, m15_4, m15_7, m15_8u, m15_8i, m15_8r, m15_9, m15_10u, m15_10i, m15_10r, m15_12, m15_14, m15_15, m15_18, m15_19, m15_22, m15_24, m15_25, m15_26, m15_27, m15_28, m15_29, m15_32, m15_33, m15_36, m15_38, m15_39, m15_40, m15_43, m15_44, m15_47, m15_49, m15_50i, m15_51, m15_54, m15_57, m15_58, m15_61, m15_62, m15_63, m15_64, m15_67, m15_70, m16_0, m16_1u, m16_2, m16_3, m16_6, m16_7, m16_8u, m16_10, m16_11u, m16_13, m16_15, m16_16, m16_19, m16_20, m16_23, m16_25, m16_26, m16_28, m16_31, m16_34, m16_35u, m16_35i, m16_35r, m16_37, m16_39, m16_40, m16_43, m16_44, m16_47, m16_49, m16_50, m16_51, m16_53, m16_54, m16_55u, m16_55i, m16_55r, m16_57, m16_59, m16_62, m16_63, m16_66, m16_68, m16_69, m16_71, m16_74, m16_76, m16_77, m16_80, m16_82i, m16_83, m16_86, m16_89, m16_92, m16_95, m16_96, m17_0, m17_1, m17_4, m17_5, m17_6, m17_7, m17_8u, m17_10, m17_12u, m17_14, m17_15u, m17_17, m17_19, m17_22, m17_25, m17_27, m17_28, m17_31, m17_32, m17_33, m17_36, m17_37, m17_38, m17_40, m17_41, m17_42, m17_43, m17_45, m17_48, m17_49u, m17_49i, m17_49r, m17_51, m17_53, m17_55, m17_58, m17_60, m17_61, m17_63i, m17_65, m17_68, m17_71, m17_72, m18_0, m18_1u, m18_3, m18_4, m18_7, m18_8, m18_9u, m18_11, m18_12u, m18_14, m18_16, m18_17, m18_20, m18_21, m18_24, m18_26, m18_27u, m18_27i, m18_27r, m18_29, m18_30, m18_33, m18_35, m18_36, m18_38, m18_41, m18_43, m18_46, m18_48, m18_49, m18_51, m18_52, m18_53, m18_54, m18_56, m18_57, m18_58, m18_61, m18_63, m18_64, m18_65, m18_66i, m18_68, m18_71, m18_74, m18_76, m19_0, m19_1u, m19_2, m19_3, m19_4, m19_7, m19_8, m19_11, m19_12, m19_13, m19_16, m19_17, m19_18, m19_19, m19_20, m19_23, m19_24, m19_25, m19_28, m19_29, m19_30, m19_31, m19_34, m19_37, m19_38i, m19_39, m19_40, m19_41, m19_44, m19_45, m19_48, m19_49, m19_50, m19_53, m19_54, m19_55, m19_56, m19_59, m19_62, m20_0, m20_3, m20_4, m20_5, m20_8u, m20_10, m20_11, m20_12, m20_15, m20_16, m20_19, m20_20, m20_22, m20_25, m20_27, m20_30, m20_31u, m20_33, m20_34, m20_35, m20_38, m20_39, m20_42, m20_45, m20_46, m20_47, m20_50, m20_51, m20_52, m20_55, m20_56, m20_57, m20_60, m20_61, m20_62, m20_65, m20_67u, m20_69, m20_72, m20_74, m20_75, m20_78, m20_80, m20_82, m20_85, m20_87u, m20_89, m20_92, m20_93u, m20_95, m20_97, m20_98, m20_99, m20_100, m20_102, m20_105u, m20_107, m20_109, m20_111, m20_114, m20_115, m20_116, m20_118, m20_121, m20_122, m20_125, m20_126u, m20_128, m20_130, m20_133u, m20_135, m20_137, m20_139, m20_142, m20_143, m20_146, m20_148, m20_151, m20_152, m20_153, m20_155, m20_158, m20_160, m20_163, m20_164, m20_167, m20_168, m20_171, m20_172, m20_173, m20_175, m20_176, m20_179, m20_181, m20_184, m20_185, m20_188, m20_189, m20_192, m20_193, m20_194, m20_196, m20_197, m20_200, m20_202, m20_205, m20_206, m20_209, m20_210, m20_213, m20_214, m20_215, m20_217, m20_220, m20_222, m20_225, m20_226, m20_229, m20_230, m20_233, m20_234, m20_235, m20_237, m20_240, m20_241, m20_244, m20_245, m20_246, m20_248, m20_251, m20_253, m20_256, m20_257, m20_258, m20_260, m20_261, m20_262, m20_263, m20_265, m20_268u, m20_270, m20_272, m20_275, m20_277, m20_278, m20_281, m20_282, m20_285, m20_287, m20_290, m20_292u, m20_294, m20_296, m20_298, m20_301, m20_302, m20_305, m20_306, nb0, nb1, ou_a, Option.toList_some, Option.toList_none, List.nil_append, List.cons_append, getA_set2, setA_len, inB_iff, A0g_0, A0g_1, A0g_2, A0g_3, A0g_4, A0g_5, A0g_6, A0g_7, A0g_8, A0g_9, A0g_10, A0g_11, A0g_12, A0g_13, A0g_14, A0g_15, A0g_16, A0g_17, A0g_18, A0g_19, A0l_0, A0l_1, A0l_2, A0l_3, A0l_4, A0l_5, A0l_6, A0l_7, A0l_8, A0l_9, A0l_10, A0l_11, A0l_12, A0l_13, A0l_14, A0l_15, A0l_16, A0l_17, A0l_18, A0l_19]
    refine ⟨?_, ?_⟩ <;> simp only [ou_a, setA_len, put_len, put_tot, pad_0, tot_nil, List.length_nil, List.length_cons, A0l_0, A0l_1, A0l_2, A0l_3, A0l_4, A0l_5, A0l_6, A0l_7, A0l_8, A0l_9, A0l_10, A0l_11, A0l_12, A0l_13, A0l_14, A0l_15, A0l_16, A0l_17, A0l_18, A0l_19] <;> simp [setA_len, put_len, put_tot, pad_0, tot_nil, List.length_nil, List.length_cons, A0l_0, A0l_1, A0l_2, A0l_3, A0l_4, A0l_5, A0l_6, A0l_7, A0l_8, A0l_9, A0l_10, A0l_11, A0l_12, A0l_13, A0l_14, A0l_15, A0l_16, A0l_17, A0l_18, A0l_19]
  by_cases b3 : i2 < 1
  · simp [a1, a2, a3, a4, a5, b1, b2, b3, m0_0, m0_1, m0_4, m0_5, m0_12, m0_13, m0_20, m0_21, m0_28, m0_29, m0_36, m0_37, m0_44, m0_45, m0_52, m0_53, m0_60, m0_61, m0_68, m0_69, m0_75, m0_76, m0_82, m0_83, m0_89, m0_90, m0_96, m0_97, m0_104, m0_105, m0_112, m0_113, m0_120, m0_121, m0_128, m0_129, m0_136, m0_137, m0_144, m0_145, m0_152, m0_153, m0_160, m0_161u, m0_162, m0_163, m0_164, m0_167, m0_168i, m0_169, m0_170, m0_172, m0_175, m0_177i, m0_178, m0_179, m0_180, m0_183, m0_184, m0_185, m0_188, m0_189, m0_190, m0_193, m0_194, m0_195, m0_198, m0_199, m0_200, m0_203, m0_204u, m0_205, m0_206, m0_207, m0_210, m0_211, m0_214, m0_215, m0_216, m0_217, m0_220, m0_223, m0_224, m0_227, m1_0, m1_1, m1_2, m1_5, m1_6, m1_7, m1_10, m1_11u, m1_12, m1_13, m1_15, m1_18, m1_19, m1_22, m1_23, m1_24, m1_25, m1_26, m1_29, m1_30, m1_31, m1_32, m1_33, m1_36, m1_37, m1_38, m1_39, m1_40, m1_43, m1_44, m1_45, m1_46, m1_47, m1_50, m1_51, m1_52, m1_53, m1_54, m1_57, m1_58, m1_59, m1_60, m1_63, m1_66, m2_0, m2_1, m2_4, m2_5, m2_8, m2_11, m2_12, m2_13, m2_14, m2_15, m2_18, m2_19, m2_22, m2_25, m2_27, m2_28, m2_29, m2_30, m2_33, m2_34, m2_35, m2_38, m2_40, m2_41, m2_42, m2_43, m2_46, m2_47, m2_48, m2_51, m2_53, m2_54, m2_56, m2_57, m2_60, m2_62, m2_64, m2_67, m2_69, m2_70, m2_71, m2_73, m2_76, m2_79, m2_81, m2_82, m2_83, m2_84, m2_87, m2_88, m2_89, m2_92, m2_93, m2_94, m2_97, m2_98, m2_99, m2_102, m2_103, m2_105, m2_108, m2_109u, m2_111, m2_113, m2_114, m2_117, m2_118, m2_121, m2_123, m2_124, m2_125, m2_126, m2_129, m2_131, m2_132, m2_133, m2_136, m2_139, m2_140, m3_0, m3_1, m3_4, m3_7, m3_9, m3_10, m3_11, m3_14u, m3_15, m3_16, m3_18, m3_21, m3_22, m3_23, m3_26, m3_27, m3_28, m3_29, m3_30, m3_33, m3_34, m3_37, m3_40u, m3_41, m3_42, m3_45, m3_48, m3_49, m3_50, m3_53, m3_54, m3_55, m3_58, m3_60, m3_61, m3_62, m3_63, m3_66, m3_67, m3_68, m3_69, m3_70, m3_73u, m3_74, m3_75, m3_78, m3_79, m3_80, m3_83, m3_84, m3_85, m3_88, m3_90, m3_91, m3_92, m3_93, m3_94, m3_95, m3_98, m3_99, m3_100, m3_101, m3_102, m3_105, m3_106, m3_107, m3_110, m3_111, m3_112, m3_115, m3_116, m3_117, m3_120, m3_121, m3_124, m3_125, m4_0, m4_1, m4_4, m5_0, m5_1, m5_2, m5_5, m5_8, m5_9, m5_10, m5_11, m5_14, m5_15, m5_16, m6_0, m6_1, m6_4, m6_5, m6_6, m6_9, m6_12, m6_13, m6_16, m6_17, m7_0, m7_1, m7_2, m7_5, m7_8, m7_9, m7_10, m7_11, m7_14, m7_15, m7_16, m8_0, m8_1, m8_4, m9_0, m9_1, m9_4, m10_0, m10_1u, m10_2, m10_3, m10_4, m10_7, m10_10, m10_11, m10_14, m10_15, m10_16, m10_17, m10_20, m10_21, m10_22, m10_25, m10_28, m10_29, m11_0, m11_1, m11_2, m11_5, m11_6, m11_7, m11_10, m11_13, m11_14, m11_15, m11_16, m11_17, m11_20u, m11_21, m11_22, m11_23, m11_26, m11_29, m11_30, m11_31, m11_32, m11_33, m11_34, m11_35, m12_0, m12_1u, m12_2, m12_3u, m12_5, m12_6u, m12_8, m12_10, m12_12, m12_15, m12_17, m12_20, m12_23, m12_24, m12_26, m12_27u, m12_27i, m12_27r, m12_29, m12_31i, m12_32, m12_34i, m12_36, m12_39, m12_42, m12_43, m13_0, m13_1, m13_4, m13_5, m13_6, m13_9, m13_10, m13_11, m13_14, m13_15, m13_16, m13_19, m13_20, m13_21, m13_24, m13_25, m13_26, m13_29, m13_30, m13_31, m13_34, m13_35, m13_36, m13_39, m13_40, m13_41u, m13_42, m13_43, m13_44, m13_47, m13_48, m13_51, m13_52, m13_53, m13_54, m13_55, m13_56, m13_57, m13_60, m13_61, m13_62, m13_63, m13_64, m13_67, m13_68, m13_69, m13_70, m13_71, m13_72, m13_73, m13_76, m13_77, m13_78, m13_79, m13_82, m13_85, m14_0, m14_1, m14_2, m14_5, m14_6u, m14_7, m14_8, m14_9, m14_12, m14_13, m14_14, m14_15, m14_18u, m14_18i, m14_18r, m14_19, m14_20, m14_23, m14_24, m14_25, m14_26, m14_27, m14_28, m14_29, m14_30, m14_33u, m14_33i, m14_33r, m14_35, m14_37, m14_40, m14_41, m14_42, m14_43, m14_46, m14_47, m14_49, m14_50, m14_53, m14_56, m14_57, m15_0, m15_1u, m15_2, m15_3, m15_4, m15_7, m15_8u, m15_8i, m15_8r, m15_9, m15_10u, m15_10i, m15_10r, m15_12, m15_14, m15_15, m15_18, m15_19, m15_22, m15_24, m15_25, m15_26, m15_27, m15_28, m15_29, m15_32, m15_33, m15_36, m15_38, m15_39, m15_40, m15_43, m15_44, m15_47, m15_49, m15_50i, m15_51, m15_54, m15_57, m15_58, m15_61, m15_62, m15_63, m15_64, m15_67, m15_70, m16_0, m16_1u, m16_2, m16_3, m16_6, m16_7, m16_8u, m16_10, m16_11u, m16_13, m16_15, m16_16, m16_19, m16_20, m16_23, m16_25, m16_26, m16_28, m16_31, m16_34, m16_35u, m16_35i, m16_35r, m16_37, m16_39, m16_40, m16_43, m16_44, m16_47, m16_49, m16_50, m16_51, m16_53, m16_54, m16_55u, m16_55i, m16_55r, m16_57, m16_59, m16_62, m16_63, m16_66, m16_68, m16_69, m16_71, m16_74, m16_76, m16_77, m16_80, m16_82i, m16_83, m16_86, m16_89, m16_92, m16_95, m16_96, m17_0, m17_1, m17_4, m17_5, m17_6, m17_7, m17_8u, m17_10, m17_12u, m17_14, m17_15u, m17_17, m17_19, m17_22, m17_25, m17_27, m17_28, m17_31, m17_32, m17_33, m17_36, m17_37, m17_38, m17_40, m17_41, m17_42, m17_43, m17_45, m17_48, m17_49u, m17_49i, m17_49r, m17_51, m17_53, m17_55, m17_58, m17_60, m17_61, m17_63i, m17_65, m17_68, m17_71, m17_72, m18_0, m18_1u, m18_3, m18_4, m18_7, m18_8, m18_9u, m18_11, m18_12u, m18_14, m18_16, m18_17, m18_20, m18_21, m18_24, m18_26, m18_27u, m18_27i, m18_27r, m18_29, m18_30, m18_33, m18_35, m18_36, m18_38, m18_41, m18_43, m18_46, m18_48, m18_49, m18_51, m18_52, m18_53, m18_54, m18_56, m18_57, m18_58, m18_61, m18_63, m18_64, m18_65, m18_66i, m18_68, m18_71, m18_74, m18_76, m19_0, m19_1u, m19_2, m19_3, m19_4, m19_7, m19_8, m19_11, m19_12, m19_13, m19_16, m19_17, m19_18, m19_19, m19_20, m19_23, m19_24, m19_25, m19_28, m19_29, m19_30, m19_31, m19_34, m19_37, m19_38i, m19_39, m19_40, m19_41, m19_44, m19_45, m19_48, m19_49, m19_50, m19_53, m19_54, m19_55, m19_56, m19_59, m19_62, m20_0, m20_3, m20_4, m20_5, m20_8u, m20_10, m20_11, m20_12, m20_15, m20_16, m20_19, m20_20, m20_22, m20_25, m20_27, m20_30, m20_31u, m20_33, m20_34, m20_35, m20_38, m20_39, m20_42, m20_45, m20_46, m20_47, m20_50, m20_51, m20_52, m20_55, m20_56, m20_57, m20_60, m20_61, m20_62, m20_65, m20_67u, m20_69, m20_72, m20_74, m20_75, m20_78, m20_80, m20_82, m20_85, m20_87u, m20_89, m20_92, m20_93u, m20_95, m20_97, m20_98, m20_99, m20_100, m20_102, m20_105u, m20_107, m20_109, m20_111, m20_114, m20_115, m20_116, m20_118, m20_121, m20_122, m20_125, m20_126u, m20_128, m20_130, m20_133u, m20_135, m20_137, m20_139, m20_142, m20_143, m20_146, m20_148, m20_151, m20_152, m20_153, m20_155, m20_158, m20_160, m20_163, m20_164, m20_167, m20_168, m20_171, m20_172, m20_173, m20_175, m20_176, m20_179, m20_181, m20_184, m20_185, m20_188, m20_189, m20_192, m20_193, m20_194, m20_196, m20_197, m20_200, m20_202, m20_205, m20_206, m20_209, m20_210, m20_213, m20_214, m20_215, m20_217, m20_220, m20_222, m20_225, m20_226, m20_229, m20_230, m20_233, m20_234, m20_235, m20_237, m20_240, m20_241, m20_244, m20_245, m20_246, m20_248, m20_251, m20_253, m20_256, m20_257, m20_258, m20_260, m20_261, m20_262, m20_263, m20_265, m20_268u, m20_270, m20_272, m20_275, m20_277, m20_278, m20_281, m20_282, m20_285, m20_287, m20_290, m20_292u, m20_294, m20_296, m20_298, m20_301, m20_302, m20_305, m20_306, nb0, nb1, ou_a, Option.toList_some, Option.toList_none, List.nil_append, List.cons_append, getA_set2, setA_len, inB_iff, A0g_0, A0g_1, A0g_2, A0g_3, A0g_4, A0g_5, A0g_6, A0g_7, A0g_8, A0g_9, A0g_10, A0g_11, A0g_12, A0g_13, A0g_14, A0g_15, A0g_16, A0g_17, A0g_18, A0g_19, A0l_0, A0l_1, A0l_2, A0l_3, A0l_4, A0l_5, A0l_6, A0l_7, A0l_8, A0l_9, A0l_10, A0l_11, A0l_12, A0l_13, A0l_14, A0l_15, A0l_16, A0l_17, A0l_18, A0l_19]
    refine ⟨?_, ?_⟩ <;> simp only [ou_a, setA_len, put_len, put_tot, pad_0, tot_nil, List.length_nil, List.length_cons, A0l_0, A0l_1, A0l_2, A0l_3, A0l_4, A0l_5, A0l_6, A0l_7, A0l_8, A0l_9, A0l_10, A0l_11, A0l_12, A0l_13, A0l_14, A0l_15, A0l_16, A0l_17, A0l_18, A0l_19] <;> simp [setA_len, put_len, put_tot, pad_0, tot_nil, List.length_nil, List.length_cons, A0l_0, A0l_1, A0l_2, A0l_3, A0l_4, A0l_5, A0l_6, A0l_7, A0l_8, A0l_9, A0l_10, A0l_11, A0l_12, A0l_13, A0l_14, A0l_15, A0l_16, A0l_17, A0l_18, A0l_19]
  by_cases b4 : i1 < i2
  · simp [a1, a2, a3, a4, a5, b1, b2, b3, b4, m0_0, m0_1, m0_4, m0_5, m0_12, m0_13, m0_20, m0_21, m0_28, m0_29, m0_36, m0_37, m0_44, m0_45, m0_52, m0_53, m0_60, m0_61, m0_68, m0_69, m0_75, m0_76, m0_82, m0_83, m0_89, m0_90, m0_96, m0_97, m0_104, m0_105, m0_112, m0_113, m0_120, m0_121, m0_128, m0_129, m0_136, m0_137, m0_144, m0_145, m0_152, m0_153, m0_160, m0_161u, m0_162, m0_163, m0_164, m0_167, m0_168i, m0_169, m0_170, m0_172, m0_175, m0_177i, m0_178, m0_179, m0_180, m0_183, m0_184, m0_185, m0_188, m0_189, m0_190, m0_193, m0_194, m0_195, m0_198, m0_199, m0_200, m0_203, m0_204u, m0_205, m0_206, m0_207, m0_210, m0_211, m0_214, m0_215, m0_216, m0_217, m0_220, m0_223, m0_224, m0_227, m1_0, m1_1, m1_2, m1_5, m1_6, m1_7, m1_10, m1_11u, m1_12, m1_13, m1_15, m1_18, m1_19, m1_22, m1_23, m1_24, m1_25, m1_26, m1_29, m1_30, m1_31, m1_32, m1_33, m1_36, m1_37, m1_38, m1_39, m1_40, m1_43, m1_44, m1_45, m1_46, m1_47, m1_50, m1_51, m1_52, m1_53, m1_54, m1_57, m1_58, m1_59, m1_60, m1_63, m1_66, m2_0, m2_1, m2_4, m2_5, m2_8, m2_11, m2_12, m2_13, m2_14, m2_15, m2_18, m2_19, m2_22, m2_25, m2_27, m2_28, m2_29, m2_30, m2_33, m2_34, m2_35, m2_38, m2_40, m2_41, m2_42, m2_43, m2_46, m2_47, m2_48, m2_51, m2_53, m2_54, m2_56, m2_57, m2_60, m2_62, m2_64, m2_67, m2_69, m2_70, m2_71, m2_73, m2_76, m2_79, m2_81, m2_82, m2_83, m2_84, m2_87, m2_88, m2_89, m2_92, m2_93, m2_94, m2_97, m2_98, m2_99, m2_102, m2_103, m2_105, m2_108, m2_109u, m2_111, m2_113, m2_114, m2_117, m2_118, m2_121, m2_123, m2_124, m2_125, m2_126, m2_129, m2_131, m2_132, m2_133, m2_136, m2_139, m2_140, m3_0, m3_1, m3_4, m3_7, m3_9, m3_10, m3_11, m3_14u, m3_15, m3_16, m3_18, m3_21, m3_22, m3_23, m3_26, m3_27, m3_28, m3_29, m3_30, m3_33, m3_34, m3_37, m3_40u, m3_41, m3_42, m3_45, m3_48, m3_49, m3_50, m3_53, m3_54, m3_55, m3_58, m3_60, m3_61, m3_62, m3_63, m3_66, m3_67, m3_68, m3_69, m3_70, m3_73u, m3_74, m3_75, m3_78, m3_79, m3_80, m3_83, m3_84, m3_85, m3_88, m3_90, m3_91, m3_92, m3_93, m3_94, m3_95, m3_98, m3_99, m3_100, m3_101, m3_102, m3_105, m3_106, m3_107, m3_110, m3_111, m3_112, m3_115, m3_116, m3_117, m3_120, m3_121, m3_124, m3_125, m4_0, m4_1, m4_4, m5_0, m5_1, m5_2, m5_5, m5_8, m5_9, m5_10, m5_11, m5_14, m5_15, m5_16, m6_0, m6_1, m6_4, m6_5, m6_6, m6_9, m6_12, m6_13, m6_16, m6_17, m7_0, m7_1, m7_2, m7_5, m7_8, m7_9, m7_10, m7_11, m7_14, m7_15, m7_16, m8_0, m8_1, m8_4, m9_0, m9_1, m9_4, m10_0, m10_1u, m10_2, m10_3, m10_4, m10_7, m10_10, m10_11, m10_14, m10_15, m10_16, m10_17, m10_20, m10_21, m10_22, m10_25, m10_28, m10_29, m11_0, m11_1, m11_2, m11_5, m11_6, m11_7, m11_10, m11_13, m11_14, m11_15, m11_16, m11_17, m11_20u, m11_21, m11_22, m11_23, m11_26, m11_29, m11_30, m11_31, m11_32, m11_33, m11_34, m11_35, m12_0, m12_1u, m12_2, m12_3u, m12_5, m12_6u, m12_8, m12_10, m12_12, m12_15, m12_17, m12_20, m12_23, m12_24, m12_26, m12_27u, m12_27i, m12_27r, m12_29, m12_31i, m12_32, m12_34i, m12_36, m12_39, m12_42, m12_43, m13_0, m13_1, m13_4, m13_5, m13_6, m13_9, m13_10, m13_11, m13_14, m13_15, m13_16, m13_19, m13_20, m13_21, m13_24, m13_25, m13_26, m13_29, m13_30, m13_31, m13_34, m13_35, m13_36, m13_39, m13_40, m13_41u, m13_42, m13_43, m13_44, m13_47, m13_48, m13_51, m13_52, m13_53, m13_54, m13_55, m13_56, m13_57, m13_60, m13_61, m13_62, m13_63, m13_64, m13_67, m13_68, m13_69, m13_70, m13_71, m13_72, m13_73, m13_76, m13_77, m13_78, m13_79, m13_82, m13_85, m14_0, m14_1, m14_2, m14_5, m14_6u, m14_7, m14_8, m14_9, m14_12, m14_13, m14_14, m14_15, m14_18u, m14_18i, m14_18r, m14_19, m14_20, m14_23, m14_24, m14_25, m14_26, m14_27, m14_28, m14_29, m14_30, m14_33u, m14_33i, m14_33r, m14_35, m14_37, m14_40, m14_41, m14_42, m14_43, m14_46, m14_47, m14_49, m14_50, m14_53, m14_56, m14_57, m15_0, m15_1u, m15_2, m15_3, m15_4, m15_7, m15_8u, m15_8i, m15_8r, m15_9, m15_10u, m15_10i, m15_10r, m15_12, m15_14, m15_15, m15_18, m15_19, m15_22, m15_24, m15_25, m15_26, m15_27, m15_28, m15_29, m15_32, m15_33, m15_36, m15_38, m15_39, m15_40, m15_43, m15_44, m15_47, m15_49, m15_50i, m15_51, m15_54, m15_57, m15_58, m15_61, m15_62, m15_63, m15_64, m15_67, m15_70, m16_0, m16_1u, m16_2, m16_3, m16_6, m16_7, m16_8u, m16_10, m16_11u, m16_13, m16_15, m16_16, m16_19, m16_20, m16_23, m16_25, m16_26, m16_28, m16_31, m16_34, m16_35u, m16_35i, m16_35r, m16_37, m16_39, m16_40, m16_43, m16_44, m16_47, m16_49, m16_50, m16_51, m16_53, m16_54, m16_55u, m16_55i, m16_55r, m16_57, m16_59, m16_62, m16_63, m16_66, m16_68, m16_69, m16_71, m16_74, m16_76, m16_77, m16_80, m16_82i, m16_83, m16_86, m16_89, m16_92, m16_95, m16_96, m17_0, m17_1, m17_4, m17_5, m17_6, m17_7, m17_8u, m17_10, m17_12u, m17_14, m17_15u, m17_17, m17_19, m17_22, m17_25, m17_27, m17_28, m17_31, m17_32, m17_33, m17_36, m17_37, m17_38, m17_40, m17_41, m17_42, m17_43, m17_45, m17_48, m17_49u, m17_49i, m17_49r, m17_51, m17_53, m17_55, m17_58, m17_60, m17_61, m17_63i, m17_65, m17_68, m17_71, m17_72, m18_0, m18_1u, m18_3, m18_4, m18_7, m18_8, m18_9u, m18_11, m18_12u, m18_14, m18_16, m18_17, m18_20, m18_21, m18_24, m18_26, m18_27u, m18_27i, m18_27r, m18_29, m18_30, m18_33, m18_35, m18_36, m18_38, m18_41, m18_43, m18_46, m18_48, m18_49, m18_51, m18_52, m18_53, m18_54, m18_56, m18_57, m18_58, m18_61, m18_63, m18_64, m18_65, m18_66i, m18_68, m18_71, m18_74, m18_76, m19_0, m19_1u, m19_2, m19_3, m19_4, m19_7, m19_8, m19_11, m19_12, m19_13, m19_16, m19_17, m19_18, m19_19, m19_20, m19_23, m19_24, m19_25, m19_28, m19_29, m19_30, m19_31, m19_34, m19_37, m19_38i, m19_39, m19_40, m19_41, m19_44, m19_45, m19_48, m19_49, m19_50, m19_53, m19_54, m19_55, m19_56, m19_59, m19_62, m20_0, m20_3, m20_4, m20_5, m20_8u, m20_10, m20_11, m20_12, m20_15, m20_16, m20_19, m20_20, m20_22, m20_25, m20_27, m20_30, m20_31u, m20_33, m20_34, m20_35, m20_38, m20_39, m20_42, m20_45, m20_46, m20_47, m20_50, m20_51, m20_52, m20_55, m20_56, m20_57, m20_60, m20_61, m20_62, m20_65, m20_67u, m20_69, m20_72, m20_74, m20_75, m20_78, m20_80, m20_82, m20_85, m20_87u, m20_89, m20_92, m20_93u, m20_95, m20_97, m20_98, m20_99, m20_100, m20_102, m20_105u, m20_107, m20_109, m20_111, m20_114, m20_115, m20_116, m20_118, m20_121, m20_122, m20_125, m20_126u, m20_128, m20_130, m20_133u, m20_135, m20_137, m20_139, m20_142, m20_143, m20_146, m20_148, m20_151, m20_152, m20_153, m20_155, m20_158, m20_160, m20_163, m20_164, m20_167, m20_168, m20_171, m20_172, m20_173, m20_175, m20_176, m20_179, m20_181, m20_184, m20_185, m20_188, m20_189, m20_192, m20_193, m20_194, m20_196, m20_197, m20_200, m20_202, m20_205, m20_206, m20_209, m20_210, m20_213, m20_214, m20_215, m20_217, m20_220, m20_222, m20_225, m20_226, m20_229, m20_230, m20_233, m20_234, m20_235, m20_237, m20_240, m20_241, m20_244, m20_245, m20_246, m20_248, m20_251, m20_253, m20_256, m20_257, m20_258, m20_260, m20_261, m20_262, m20_263, m20_265, m20_268u, m20_270, m20_272, m20_275, m20_277, m20_278, m20_281, m20_282, m20_285, m20_287, m20_290, m20_292u, m20_294, m20_296, m20_298, m20_301, m20_302, m20_305, m20_306, nb0, nb1, ou_a, Option.toList_some, Option.toList_none, List.nil_append, List.cons_append, getA_set2, setA_len, inB_iff, A0g_0, A0g_1, A0g_2, A0g_3, A0g_4, A0g_5, A0g_6, A0g_7, A0g_8, A0g_9, A0g_10, A0g_11, A0g_12, A0g_13, A0g_14, A0g_15, A0g_16, A0g_17, A0g_18, A0g_19, A0l_0, A0l_1, A0l_2, A0l_3, A0l_4, A0l_5, A0l_6, A0l_7, A0l_8, A0l_9, A0l_10, A0l_11, A0l_12, A0l_13, A0l_14, A0l_15, A0l_16, A0l_17, A0l_18, A0l_19]
    refine ⟨?_, ?_⟩ <;> simp only [ou_a, setA_len, put_len, put_tot, pad_0, tot_nil, List.length_nil, List.length_cons, A0l_0, A0l_1, A0l_2, A0l_3, A0l_4, A0l_5, A0l_6, A0l_7, A0l_8, A0l_9, A0l_10, A0l_11, A0l_12, A0l_13, A0l_14, A0l_15, A0l_16, A0l_17, A0l_18, A0l_19] <;> simp [setA_len, put_len, put_tot, pad_0, tot_nil, List.length_nil, List.length_cons, A0l_0, A0l_1, A0l_2, A0l_3, A0l_4, A0l_5, A0l_6, A0l_7, A0l_8, A0l_9, A0l_10, A0l_11, A0l_12, A0l_13, A0l_14, A0l_15, A0l_16, A0l_17, A0l_18, A0l_19]
  by_cases b5 : i3 < 1
  · simp [a1, a2, a3, a4, a5, b1, b2, b3, b4, b5, m0_0, m0_1, m0_4, m0_5, m0_12, m0_13, m0_20, m0_21, m0_28, m0_29, m0_36, m0_37, m0_44, m0_45, m0_52, m0_53, m0_60, m0_61, m0_68, m0_69, m0_75, m0_76, m0_82, m0_83, m0_89, m0_90, m0_96, m0_97, m0_104, m0_105, m0_112, m0_113, m0_120, m0_121, m0_128, m0_129, m0_136, m0_137, m0_144, m0_145, m0_152, m0_153, m0_160, m0_161u, m0_162, m0_163, m0_164, m0_167, m0_168i, m0_169, m0_170, m0_172, m0_175, m0_177i, m0_178, m0_179, m0_180, m0_183, m0_184, m0_185, m0_188, m0_189, m0_190, m0_193, m0_194, m0_195, m0_198, m0_199, m0_200, m0_203, m0_204u, m0_205, m0_206, m0_207, m0_210, m0_211, m0_214, m0_215, m0_216, m0_217, m0_220, m0_223, m0_224, m0_227, m1_0, m1_1, m1_2, m1_5, m1_6, m1_7, m1_10, m1_11u, m1_12, m1_13, m1_15, m1_18, m1_19, m1_22, m1_23, m1_24, m1_25, m1_26, m1_29, m1_30, m1_31, m1_32, m1_33, m1_36, m1_37, m1_38, m1_39, m1_40, m1_43, m1_44, m1_45, m1_46, m1_47, m1_50, m1_51, m1_52, m1_53, m1_54, m1_57, m1_58, m1_59, m1_60, m1_63, m1_66, m2_0, m2_1, m2_4, m2_5, m2_8, m2_11, m2_12, m2_13, m2_14, m2_15, m2_18, m2_19, m2_22, m2_25, m2_27, m2_28, m2_29, m2_30, m2_33, m2_34, m2_35, m2_38, m2_40, m2_41, m2_42, m2_43, m2_46, m2_47, m2_48, m2_51, m2_53, m2_54, m2_56, m2_57, m2_60, m2_62, m2_64, m2_67, m2_69, m2_70, m2_71, m2_73, m2_76, m2_79, m2_81, m2_82, m2_83, m2_84, m2_87, m2_88, m2_89, m2_92, m2_93, m2_94, m2_97, m2_98, m2_99, m2_102, m2_103, m2_105, m2_108, m2_109u, m2_111, m2_113, m2_114, m2_117, m2_118, m2_121, m2_123, m2_124, m2_125, m2_126, m2_129, m2_131, m2_132, m2_133, m2_136, m2_139, m2_140, m3_0, m3_1, m3_4, m3_7, m3_9, m3_10, m3_11, m3_14u, m3_15, m3_16, m3_18, m3_21, m3_22, m3_23, m3_26, m3_27, m3_28, m3_29, m3_30, m3_33, m3_34, m3_37, m3_40u, m3_41, m3_42, m3_45, m3_48, m3_49, m3_50, m3_53, m3_54, m3_55, m3_58, m3_60, m3_61, m3_62, m3_63, m3_66, m3_67, m3_68, m3_69, m3_70, m3_73u, m3_74, m3_75, m3_78, m3_79, m3_80, m3_83, m3_84, m3_85, m3_88, m3_90, m3_91, m3_92, m3_93, m3_94, m3_95, m3_98, m3_99, m3_100, m3_101, m3_102, m3_105, m3_106, m3_107, m3_110, m3_111, m3_112, m3_115, m3_116, m3_117, m3_120, m3_121, m3_124, m3_125, m4_0, m4_1, m4_4, m5_0, m5_1, m5_2, m5_5, m5_8, m5_9, m5_10, m5_11, m5_14, m5_15, m5_16, m6_0, m6_1, m6_4, m6_5, m6_6, m6_9, m6_12, m6_13, m6_16, m6_17, m7_0, m7_1, m7_2, m7_5, m7_8, m7_9, m7_10, m7_11, m7_14, m7_15, m7_16, m8_0, m8_1, m8_4, m9_0, m9_1, m9_4, m10_0, m10_1u, m10_2, m10_3, m10_4, m10_7, m10_10, m10_11, m10_14, m10_15, m10_16, m10_17, m10_20, m10_21, m10_22, m10_25, m10_28, m10_29, m11_0, m11_1, m11_2, m11_5, m11_6, m11_7, m11_10, m11_13, m11_14, m11_15, m11_16, m11_17, m11_20u, m11_21, m11_22, m11_23, m11_26, m11_29, m11_30, m11_31, m11_32, m11_33, m11_34, m11_35, m12_0, m12_1u, m12_2, m12_3u, m12_5, m12_6u, m12_8, m12_10, m12_12, m12_15, m12_17, m12_20, m12_23, m12_24, m12_26, m12_27u, m12_27i, m12_27r, m12_29, m12_31i, m12_32, m12_34i, m12_36, m12_39, m12_42, m12_43, m13_0, m13_1, m13_4, m13_5, m13_6, m13_9, m13_10, m13_11, m13_14, m13_15, m13_16, m13_19, m13_20, m13_21, m13_24, m13_25, m13_26, m13_29, m13_30, m13_31, m13_34, m13_35, m13_36, m13_39, m13_40, m13_41u, m13_42, m13_43, m13_44, m13_47, m13_48, m13_51, m13_52, m13_53, m13_54, m13_55, m13_56, m13_57, m13_60, m13_61, m13_62, m13_63, m13_64, m13_67, m13_68, m13_69, m13_70, m13_71, m13_72, m13_73, m13_76, m13_77, m13_78, m13_79, m13_82, m13_85, m14_0, m14_1, m14_2, m14_5, m14_6u, m14_7, m14_8, m14_9, m14_12, m14_13, m14_14, m14_15, m14_18u, m14_18i, m14_18r, m14_19, m14_20, m14_23, m14_24, m14_25, m14_26, m14_27, m14_28, m14_29, m14_30, m14_33u, m14_33i, m14_33r, m14_35, m14_37, m14_40, m14_41, m14_42, m14_43, m14_46, m14_47, m14_49, m14_50, m14_53, m14_56, m14_57, m15_0, m15_1u, m15_2, m15_3, m15_4, m15_7, m15_8u, m15_8i, m15_8r, m15_9, m15_10u, m15_10i, m15_10r, m15_12, m15_14, m15_15, m15_18, m15_19, m15_22, m15_24, m15_25, m15_26, m15_27, m15_28, m15_29, m15_32, m15_33, m15_36, m15_38, m15_39, m15_40, m15_43, m15_44, m15_47, m15_49, m15_50i, m15_51, m15_54, m15_57, m15_58, m15_61, m15_62, m15_63, m15_64, m15_67, m15_70, m16_0, m16_1u, m16_2, m16_3, m16_6, m16_7, m16_8u, m16_10, m16_11u, m16_13, m16_15, m16_16, m16_19, m16_20, m16_23, m16_25, m16_26, m16_28, m16_31, m16_34, m16_35u, m16_35i, m16_35r, m16_37, m16_39, m16_40, m16_43, m16_44, m16_47, m16_49, m16_50, m16_51, m16_53, m16_54, m16_55u, m16_55i, m16_55r, m16_57, m16_59, m16_62, m16_63, m16_66, m16_68, m16_69, m16_71, m16_74, m16_76, m16_77, m16_80, m16_82i, m16_83, m16_86, m16_89, m16_92, m16_95, m16_96, m17_0, m17_1, m17_4, m17_5, m17_6, m17_7, m17_8u, m17_10, m17_12u, m17_14, m17_15u, m17_17, m17_19, m17_22, m17_25, m17_27, m17_28, m17_31, m17_32, m17_33, m17_36, m17_37, m17_38, m17_40, m17_41, m17_42, m17_43, m17_45, m17_48, m17_49u, m17_49i, m17_49r, m17_51, m17_53, m17_55, m17_58, m17_60, m17_61, m17_63i, m17_65, m17_68, m17_71, m17_72, m18_0, m18_1u, m18_3, m18_4, m18_7, m18_8, m18_9u, m18_11, m18_12u, m18_14, m18_16, m18_17, m18_20, m18_21, m18_24, m18_26, m18_27u, m18_27i, m18_27r, m18_29, m18_30, m18_33, m18_35, m18_36, m18_38, m18_41, m18_43, m18_46, m18_48, m18_49, m18_51, m18_52, m18_53, m18_54, m18_56, m18_57, m18_58, m18_61, m18_63, m18_64, m18_65, m18_66i, m18_68, m18_71, m18_74, m18_76, m19_0, m19_1u, m19_2, m19_3, m19_4, m19_7, m19_8, m19_11, m19_12, m19_13, m19_16, m19_17, m19_18, m19_19, m19_20, m19_23, m19_24, m19_25, m19_28, m19_29, m19_30, m19_31, m19_34, m19_37, m19_38i, m19_39, m19_40, m19_41, m19_44, m19_45, m19_48, m19_49, m19_50, m19_53, m19_54, m19_55, m19_56, m19_59, m19_62, m20_0, m20_3, m20_4, m20_5, m20_8u, m20_10, m20_11, m20_12, m20_15, m20_16, m20_19, m20_20, m20_22, m20_25, m20_27, m20_30, m20_31u, m20_33, m20_34, m20_35, m20_38, m20_39, m20_42, m20_45, m20_46, m20_47, m20_50, m20_51, m20_52, m20_55, m20_56, m20_57, m20_60, m20_61, m20_62, m20_65, m20_67u, m20_69, m20_72, m20_74, m20_75, m20_78, m20_80, m20_82, m20_85, m20_87u, m20_89, m20_92, m20_93u, m20_95, m20_97, m20_98, m20_99, m20_100, m20_102, m20_105u, m20_107, m20_109, m20_111, m20_114, m20_115, m20_116, m20_118, m20_121, m20_122, m20_125, m20_126u, m20_128, m20_130, m20_133u, m20_135, m20_137, m20_139, m20_142, m20_143, m20_146, m20_148, m20_151, m20_152, m20_153, m20_155, m20_158, m20_160, m20_163, m20_164, m20_167, m20_168, m20_171, m20_172, m20_173, m20_175, m20_176, m20_179, m20_181, m20_184, m20_185, m20_188, m20_189, m20_192, m20_193, m20_194, m20_196, m20_197, m20_200, m20_202, m20_205, m20_206, m20_209, m20_210, m20_213, m20_214, m20_215, m20_217, m20_220, m20_222, m20_225, m20_226, m20_229, m20_230, m20_233, m20_234, m20_235, m20_237, m20_240, m20_241, m20_244, m20_245, m20_246, m20_248, m20_251, m20_253, m20_256, m20_257, m20_258, m20_260, m20_261, m20_262, m20_263, m20_265, m20_268u, m20_270, m20_272, m20_275, m20_277, m20_278, m20_281, m20_282, m20_285, m20_287, m20_290, m20_292u, m20_294, m20_296, m20_298, m20_301, m20_302, m20_305, m20_306, nb0, nb1, ou_a, Option.toList_some, Option.toList_none, List.nil_append, List.cons_append, getA_set2, setA_len, inB_iff, A0g_0, A0g_1, A0g_2, A0g_3, A0g_4, A0g_5, A0g_6, A0g_7, A0g_8, A0g_9, A0g_10, A0g_11, A0g_12, A0g_13, A0g_14, A0g_15, A0g_16, A0g_17, A0g_18, A0g_19, A0l_0, A0l_1, A0l_2, A0l_3, A0l_4, A0l_5, A0l_6, A0l_7, A0l_8, A0l_9, A0l_10, A0l_11, A0l_12, A0l_13, A0l_14, A0l_15, A0l_16, A0l_17, A0l_18, A0l_19]
    refine ⟨?_, ?_⟩ <;> simp only [ou_a, setA_len, put_len, put_tot, pad_0, tot_nil, List.length_nil, List.length_cons, A0l_0, A0l_1, A0l_2, A0l_3, A0l_4, A0l_5, A0l_6, A0l_7, A0l_8, A0l_9, A0l_10, A0l_11, A0l_12, A0l_13, A0l_14, A0l_15, A0l_16, A0l_17, A0l_18, A0l_19] <;> simp [setA_len, put_len, put_tot, pad_0, tot_nil, List.length_nil, List.length_cons, A0l_0, A0l_1, A0l_2, A0l_3, A0l_4, A0l_5, A0l_6, A0l_7, A0l_8, A0l_9, A0l_10, A0l_11, A0l_12, A0l_13, A0l_14, A0l_15, A0l_16, A0l_17, A0l_18, A0l_19]
  by_cases b6 : i2 < i3
  · simp [a1, a2, a3, a4, a5, b1, b2, b3, b4, b5, b6, m0_0, m0_1, m0_4, m0_5, m0_12, m0_13, m0_20, m0_21, m0_28, m0_29, m0_36, m0_37, m0_44, m0_45, m0_52, m0_53, m0_60, m0_61, m0_68, m0_69, m0_75, m0_76, m0_82, m0_83, m0_89, m0_90, m0_96, m0_97, m0_104, m0_105, m0_112, m0_113, m0_120, m0_121, m0_128, m0_129, m0_136, m0_137, m0_144, m0_145, m0_152, m0_153, m0_160, m0_161u, m0_162, m0_163, m0_164, m0_167, m0_168i, m0_169, m0_170, m0_172, m0_175, m0_177i, m0_178, m0_179, m0_180, m0_183, m0_184, m0_185, m0_188, m0_189, m0_190, m0_193, m0_194, m0_195, m0_198, m0_199, m0_200, m0_203, m0_204u, m0_205, m0_206, m0_207, m0_210, m0_211, m0_214, m0_215, m0_216, m0_217, m0_220, m0_223, m0_224, m0_227, m1_0, m1_1, m1_2, m1_5, m1_6, m1_7, m1_10, m1_11u, m1_12, m1_13, m1_15, m1_18, m1_19, m1_22, m1_23, m1_24, m1_25, m1_26, m1_29, m1_30, m1_31, m1_32, m1_33, m1_36, m1_37, m1_38, m1_39, m1_40, m1_43, m1_44, m1_45, m1_46, m1_47, m1_50, m1_51, m1_52, m1_53, m1_54, m1_57, m1_58, m1_59, m1_60, m1_63, m1_66, m2_0, m2_1, m2_4, m2_5, m2_8, m2_11, m2_12, m2_13, m2_14, m2_15, m2_18, m2_19, m2_22, m2_25, m2_27, m2_28, m2_29, m2_30, m2_33, m2_34, m2_35, m2_38, m2_40, m2_41, m2_42, m2_43, m2_46, m2_47, m2_48, m2_51, m2_53, m2_54, m2_56, m2_57, m2_60, m2_62, m2_64, m2_67, m2_69, m2_70, m2_71, m2_73, m2_76, m2_79, m2_81, m2_82, m2_83, m2_84, m2_87, m2_88, m2_89, m2_92, m2_93, m2_94, m2_97, m2_98, m2_99, m2_102, m2_103, m2_105, m2_108, m2_109u, m2_111, m2_113, m2_114, m2_117, m2_118, m2_121, m2_123, m2_124, m2_125, m2_126, m2_129, m2_131, m2_132, m2_133, m2_136, m2_139, m2_140, m3_0, m3_1, m3_4, m3_7, m3_9, m3_10, m3_11, m3_14u, m3_15, m3_16, m3_18, m3_21, m3_22, m3_23, m3_26, m3_27, m3_28, m3_29, m3_30, m3_33, m3_34, m3_37, m3_40u, m3_41, m3_42, m3_45, m3_48, m3_49, m3_50, m3_53, m3_54, m3_55, m3_58, m3_60, m3_61, m3_62, m3_63, m3_66, m3_67, m3_68, m3_69, m3_70, m3_73u, m3_74, m3_75, m3_78, m3_79, m3_80, m3_83, m3_84, m3_85, m3_88, m3_90, m3_91, m3_92, m3_93, m3_94, m3_95, m3_98, m3_99, m3_100, m3_101, m3_102, m3_105, m3_106, m3_107, m3_110, m3_111, m3_112, m3_115, m3_116, m3_117, m3_120, m3_121, m3_124, m3_125, m4_0, m4_1, m4_4, m5_0, m5_1, m5_2, m5_5, m5_8, m5_9, m5_10, m5_11, m5_14, m5_15, m5_16, m6_0, m6_1, m6_4, m6_5, m6_6, m6_9, m6_12, m6_13, m6_16, m6_17, m7_0, m7_1, m7_2, m7_5, m7_8, m7_9, m7_10, m7_11, m7_14, m7_15, m7_16, m8_0, m8_1, m8_4, m9_0, m9_1, m9_4, m10_0, m10_1u, m10_2, m10_3, m10_4, m10_7, m10_10, m10_11, m10_14, m10_15, m10_16, m10_17, m10_20, m10_21, m10_22, m10_25, m10_28, m10_29, m11_0, m11_1, m11_2, m11_5, m11_6, m11_7, m11_10, m11_13, m11_14, m11_15, m11_16, m11_17, m11_20u, m11_21, m11_22, m11_23, m11_26, m11_29, m11_30, m11_31, m11_32, m11_33, m11_34, m11_35, m12_0, m12_1u, m12_2, m12_3u, m12_5, m12_6u, m12_8, m12_10, m12_12, m12_15, m12_17, m12_20, m12_23, m12_24, m12_26, m12_27u, m12_27i, m12_27r, m12_29, m12_31i, m12_32, m12_34i, m12_36, m12_39, m12_42, m12_43, m13_0, m13_1, m13_4, m13_5, m13_6, m13_9, m13_10, m13_11, m13_14, m13_15, m13_16, m13_19, m13_20, m13_21, m13_24, m13_25, m13_26, m13_29, m13_30, m13_31, m13_34, m13_35, m13_36, m13_39, m13_40, m13_41u, m13_42, m13_43, m13_44, m13_47, m13_48, m13_51, m13_52, m13_53, m13_54, m13_55, m13_56, m13_57, m13_60, m13_61, m13_62, m13_63, m13_64, m13_67, m13_68, m13_69, m13_70, m13_71, m13_72, m13_73, m13_76, m13_77, m13_78, m13_79, m13_82, m13_85, m14_0, m14_1, m14_2, m14_5, m14_6u, m14_7, m14_8, m14_9, m14_12, m14_13, m14_14, m14_15, m14_18u, m14_18i, m14_18r, m14_19, m14_20, m14_23, m14_24, m14_25, m14_26, m14_27, m14_28, m14_29, m14_30, m14_33u, m14_33i, m14_33r, m14_35, m14_37, m14_40, m14_41, m14_42, m14_43, m14_46, m14_47, m14_49, m14_50, m14_53, m14_56, m14_57, m15_0, m15_1u, m15_2, m15_3, m15_4, m15_7, m15_8u, m15_8i, m15_8r, m15_9, m15_10u, m15_10i, m15_10r, m15_12, m15_14, m15_15, m15_18, m15_19, m15_22, m15_24, m15_25, m15_26, m15_27, m15_28, m15_29, m15_32, m15_33, m15_36, m15_38, m15_39, m15_40, m15_43, m15_44, m15_47, m15_49, m15_50i, m15_51, m15_54, m15_57, m15_58, m15_61, m15_62, m15_63, m15_64, m15_67, m15_70, m16_0, m16_1u, m16_2, m16_3, m16_6, m16_7, m16_8u, m16_10, m16_11u, m16_13, m16_15, m16_16, m16_19, m16_20, m16_23, m16_25, m16_26, m16_28, m16_31, m16_34, m16_35u, m16_35i, m16_35r, m16_37, m16_39, m16_40, m16_43, m16_44, m16_47, m16_49, m16_50, m16_51, m16_53, m16_54, m16_55u, m16_55i, m16_55r, m16_57, m16_59, m16_62, m16_63, m16_66, m16_68, m16_69, m16_71, m16_74, m16_76, m16_77, m16_80, m16_82i, m16_83, m16_86, m16_89, m16_92, m16_95, m16_96, m17_0, m17_1, m17_4, m17_5, m17_6, m17_7, m17_8u, m17_10, m17_12u, m17_14, m17_15u, m17_17, m17_19, m17_22, m17_25, m17_27, m17_28, m17_31, m17_32, m17_33, m17_36, m17_37, m17_38, m17_40, m17_41, m17_42, m17_43, m17_45, m17_48, m17_49u, m17_49i, m17_49r, m17_51, m17_53, m17_55, m17_58, m17_60, m17_61, m17_63i, m17_65, m17_68, m17_71, m17_72, m18_0, m18_1u, m18_3, m18_4, m18_7, m18_8, m18_9u, m18_11, m18_12u, m18_14, m18_16, m18_17, m18_20, m18_21, m18_24, m18_26, m18_27u, m18_27i, m18_27r, m18_29, m18_30, m18_33, m18_35, m18_36, m18_38, m18_41, m18_43, m18_46, m18_48, m18_49, m18_51, m18_52, m18_53, m18_54, m18_56, m18_57, m18_58, m18_61, m18_63, m18_64, m18_65, m18_66i, m18_68, m18_71, m18_74, m18_76, m19_0, m19_1u, m19_2, m19_3, m19_4, m19_7, m19_8, m19_11, m19_12, m19_13, m19_16, m19_17, m19_18, m19_19, m19_20, m19_23, m19_24, m19_25, m19_28, m19_29, m19_30, m19_31, m19_34, m19_37, m19_38i, m19_39, m19_40, m19_41, m19_44, m19_45, m19_48, m19_49, m19_50, m19_53, m19_54, m19_55, m19_56, m19_59, m19_62, m20_0, m20_3, m20_4, m20_5, m20_8u, m20_10, m20_11, m20_12, m20_15, m20_16, m20_19, m20_20, m20_22, m20_25, m20_27, m20_30, m20_31u, m20_33, m20_34, m20_35, m20_38, m20_39, m20_42, m20_45, m20_46, m20_47, m20_50, m20_51, m20_52, m20_55, m20_56, m20_57, m20_60, m20_61, m20_62, m20_65, m20_67u, m20_69, m20_72, m20_74, m20_75, m20_78, m20_80, m20_82, m20_85, m20_87u, m20_89, m20_92, m20_93u, m20_95, m20_97, m20_98, m20_99, m20_100, m20_102, m20_105u, m20_107, m20_109, m20_111, m20_114, m20_115, m20_116, m20_118, m20_121, m20_122, m20_125, m20_126u, m20_128, m20_130, m20_133u, m20_135, m20_137, m20_139, m20_142, m20_143, m20_146, m20_148, m20_151, m20_152, m20_153, m20_155, m20_158, m20_160, m20_163, m20_164, m20_167, m20_168, m20_171, m20_172, m20_173, m20_175, m20_176, m20_179, m20_181, m20_184, m20_185, m20_188, m20_189, m20_192, m20_193, m20_194, m20_196, m20_197, m20_200, m20_202, m20_205, m20_206, m20_209, m20_210, m20_213, m20_214, m20_215, m20_217, m20_220, m20_222, m20_225, m20_226, m20_229, m20_230, m20_233, m20_234, m20_235, m20_237, m20_240, m20_241, m20_244, m20_245, m20_246, m20_248, m20_251, m20_253, m20_256, m20_257, m20_258, m20_260, m20_261, m20_262, m20_263, m20_265, m20_268u, m20_270, m20_272, m20_275, m20_277, m20_278, m20_281, m20_282, m20_285, m20_287, m20_290, m20_292u, m20_294, m20_296, m20_298, m20_301, m20_302, m20_305, m20_306, nb0, nb1, ou_a, Option.toList_some, Option.toList_none, List.nil_append, List.cons_append, getA_set2, setA_len, inB_iff, A0g_0, A0g_1, A0g_2, A0g_3, A0g_4, A0g_5, A0g_6, A0g_7, A0g_8, A0g_9, A0g_10, A0g_11, A0g_12, A0g_13, A0g_14, A0g_15, A0g_16, A0g_17, A0g_18, A0g_19, A0l_0, A0l_1, A0l_2, A0l_3, A0l_4, A0l_5, A0l_6, A0l_7, A0l_8, A0l_9, A0l_10, A0l_11, A0l_12, A0l_13, A0l_14, A0l_15, A0l_16, A0l_17, A0l_18, A0l_19]
    refine ⟨?_, ?_⟩ <;> simp only [ou_a, setA_len, put_len, put_tot, pad_0, tot_nil, List.length_nil, List.length_cons, A0l_0, A0l_1, A0l_2, A0l_3, A0l_4, A0l_5, A0l_6, A0l_7, A0l_8, A0l_9, A0l_10, A0l_11, A0l_12, A0l_13, A0l_14, A0l_15, A0l_16, A0l_17, A0l_18, A0l_19] <;> simp [setA_len, put_len, put_tot, pad_0, tot_nil, List.length_nil, List.length_cons, A0l_0, A0l_1, A0l_2, A0l_3, A0l_4, A0l_5, A0l_6, A0l_7, A0l_8, A0l_9, A0l_10, A0l_11, A0l_12, A0l_13, A0l_14, A0l_15, A0l_16, A0l_17, A0l_18, A0l_19]
  by_cases b7 : i4 < 1
  · simp [a1, a2, a3, a4, a5, b1, b2, b3, b4, b5, b6, b7, m0_0, m0_1, m0_4, m0_5, m0_12, m0_13, m0_20, m0_21, m0_28, m0_29, m0_36, m0_37, m0_44, m0_45, m0_52, m0_53, m0_60, m0_61, m0_68, m0_69, m0_75, m0_76, m0_82, m0_83, m0_89, m0_90, m0_96, m0_97, m0_104, m0_105, m0_112, m0_113, m0_120, m0_121, m0_128, m0_129, m0_136, m0_137, m0_144, m0_145, m0_152, m0_153, m0_160, m0_161u, m0_162, m0_163, m0_164, m0_167, m0_168i, m0_169, m0_170, m0_172, m0_175, m0_177i, m0_178, m0_179, m0_180, m0_183, m0_184, m0_185, m0_188, m0_189, m0_190, m0_193, m0_194, m0_195, m0_198, m0_199, m0_200, m0_203, m0_204u, m0_205, m0_206, m0_207, m0_210, m0_211, m0_214, m0_215, m0_216, m0_217, m0_220, m0_223, m0_224, m0_227, m1_0, m1_1, m1_2, m1_5, m1_6, m1_7, m1_10, m1_11u, m1_12, m1_13, m1_15, m1_18, m1_19, m1_22, m1_23, m1_24, m1_25, m1_26, m1_29, m1_30, m1_31, m1_32, m1_33, m1_36, m1_37, m1_38, m1_39, m1_40, m1_43, m1_44, m1_45, m1_46, m1_47, m1_50, m1_51, m1_52, m1_53, m1_54, m1_57, m1_58, m1_59, m1_60, m1_63, m1_66, m2_0, m2_1, m2_4, m2_5, m2_8, m2_11, m2_12, m2_13, m2_14, m2_15, m2_18, m2_19, m2_22, m2_25, m2_27, m2_28, m2_29, m2_30, m2_33, m2_34, m2_35, m2_38, m2_40, m2_41, m2_42, m2_43, m2_46, m2_47, m2_48, m2_51, m2_53, m2_54, m2_56, m2_57, m2_60, m2_62, m2_64, m2_67, m2_69, m2_70, m2_71, m2_73, m2_76, m2_79, m2_81, m2_82, m2_83, m2_84, m2_87, m2_88, m2_89, m2_92, m2_93, m2_94, m2_97, m2_98, m2_99, m2_102, m2_103, m2_105, m2_108, m2_109u, m2_111, m2_113, m2_114, m2_117, m2_118, m2_121, m2_123, m2_124, m2_125, m2_126, m2_129, m2_131, m2_132, m2_133, m2_136, m2_139, m2_140, m3_0, m3_1, m3_4, m3_7, m3_9, m3_10, m3_11, m3_14u, m3_15, m3_16, m3_18, m3_21, m3_22, m3_23, m3_26, m3_27, m3_28, m3_29, m3_30, m3_33, m3_34, m3_37, m3_40u, m3_41, m3_42, m3_45, m3_48, m3_49, m3_50, m3_53, m3_54, m3_55, m3_58, m3_60, m3_61, m3_62, m3_63, m3_66, m3_67, m3_68, m3_69, m3_70, m3_73u, m3_74, m3_75, m3_78, m3_79, m3_80, m3_83, m3_84, m3_85, m3_88, m3_90, m3_91, m3_92, m3_93, m3_94, m3_95, m3_98, m3_99, m3_100, m3_101, m3_102, m3_105, m3_106, m3_107, m3_110, m3_111, m3_112, m3_115, m3_116, m3_117, m3_120, m3_121, m3_124, m3_125, m4_0, m4_1, m4_4, m5_0, m5_1, m5_2, m5_5, m5_8, m5_9, m5_10, m5_11, m5_14, m5_15, m5_16, m6_0, m6_1, m6_4, m6_5, m6_6, m6_9, m6_12, m6_13, m6_16, m6_17, m7_0, m7_1, m7_2, m7_5, m7_8, m7_9, m7_10, m7_11, m7_14, m7_15, m7_16, m8_0, m8_1, m8_4, m9_0, m9_1, m9_4, m10_0, m10_1u, m10_2, m10_3, m10_4, m10_7, m10_10, m10_11, m10_14, m10_15, m10_16, m10_17, m10_20, m10_21, m10_22, m10_25, m10_28, m10_29, m11_0, m11_1, m11_2, m11_5, m11_6, m11_7, m11_10, m11_13, m11_14, m11_15, m11_16, m11_17, m11_20u, m11_21, m11_22, m11_23, m11_26, m11_29, m11_30, m11_31, m11_32, m11_33, m11_34, m11_35, m12_0, m12_1u, m12_2, m12_3u, m12_5, m12_6u, m12_8, m12_10, m12_12, m12_15, m12_17, m12_20, m12_23, m12_24, m12_26, m12_27u, m12_27i, m12_27r, m12_29, m12_31i, m12_32, m12_34i, m12_36, m12_39, m12_42, m12_43, m13_0, m13_1, m13_4, m13_5, m13_6, m13_9, m13_10, m13_11, m13_14, m13_15, m13_16, m13_19, m13_20, m13_21, m13_24, m13_25, m13_26, m13_29, m13_30, m13_31, m13_34, m13_35, m13_36, m13_39, m13_40, m13_41u, m13_42, m13_43, m13_44, m13_47, m13_48, m13_51, m13_52, m13_53, m13_54, m13_55, m13_56, m13_57, m13_60, m13_61, m13_62, m13_63, m13_64, m13_67, m13_68, m13_69, m13_70, m13_71, m13_72, m13_73, m13_76, m13_77, m13_78, m13_79, m13_82, m13_85, m14_0, m14_1, m14_2, m14_5, m14_6u, m14_7, m14_8, m14_9, m14_12, m14_13, m14_14, m14_15, m14_18u, m14_18i, m14_18r, m14_19, m14_20, m14_23, m14_24, m14_25, m14_26, m14_27, m14_28, m14_29, m14_30, m14_33u, m14_33i, m14_33r, m14_35, m14_37, m14_40, m14_41, m14_42, m14_43, m14_46, m14_47, m14_49, m14_50, m14_53, m14_56, m14_57, m15_0, m15_1u, m15_2, m15_3, m15_4, m15_7, m15_8u, m15_8i, m15_8r, m15_9, m15_10u, m15_10i, m15_10r, m15_12, m15_14, m15_15, m15_18, m15_19, m15_22, m15_24, m15_25, m15_26, m15_27, m15_28, m15_29, m15_32, m15_33, m15_36, m15_38, m15_39, m15_40, m15_43, m15_44, m15_47, m15_49, m15_50i, m15_51, m15_54, m15_57, m15_58, m15_61, m15_62, m15_63, m15_64, m15_67, m15_70, m16_0, m16_1u, m16_2, m16_3, m16_6, m16_7, m16_8u, m16_10, m16_11u, m16_13, m16_15, m16_16, m16_19, m16_20, m16_23, m16_25, m16_26, m16_28, m16_31, m16_34, m16_35u, m16_35i, m16_35r, m16_37, m16_39, m16_40, m16_43, m16_44, m16_47, m16_49, m16_50, m16_51, m16_53, m16_54, m16_55u, m16_55i, m16_55r, m16_57, m16_59, m16_62, m16_63, m16_66, m16_68, m16_69, m16_71, m16_74, m16_76, m16_77, m16_80, m16_82i, m16_83, m16_86, m16_89, m16_92, m16_95, m16_96, m17_0, m17_1, m17_4, m17_5, m17_6, m17_7, m17_8u, m17_10, m17_12u, m17_14, m17_15u, m17_17, m17_19, m17_22, m17_25, m17_27, m17_28, m17_31, m17_32, m17_33, m17_36, m17_37, m17_38, m17_40, m17_41, m17_42, m17_43, m17_45, m17_48, m17_49u, m17_49i, m17_49r, m17_51, m17_53, m17_55, m17_58, m17_60, m17_61, m17_63i, m17_65, m17_68, m17_71, m17_72, m18_0, m18_1u, m18_3, m18_4, m18_7, m18_8, m18_9u, m18_11, m18_12u, m18_14, m18_16, m18_17, m18_20, m18_21, m18_24, m18_26, m18_27u, m18_27i, m18_27r, m18_29, m18_30, m18_33, m18_35, m18_36, m18_38, m18_41, m18_43, m18_46, m18_48, m18_49, m18_51, m18_52, m18_53, m18_54, m18_56, m18_57, m18_58, m18_61, m18_63, m18_64, m18_65, m18_66i, m18_68, m18_71, m18_74, m18_76, m19_0, m19_1u, m19_2, m19_3, m19_4, m19_7, m19_8, m19_11, m19_12, m19_13, m19_16, m19_17, m19_18, m19_19, m19_20, m19_23, m19_24, m19_25, m19_28, m19_29, m19_30, m19_31, m19_34, m19_37, m19_38i, m19_39, m19_40, m19_41, m19_44, m19_45, m19_48, m19_49, m19_50, m19_53, m19_54, m19_55, m19_56, m19_59, m19_62, m20_0, m20_3, m20_4, m20_5, m20_8u, m20_10, m20_11, m20_12, m20_15, m20_16, m20_19, m20_20, m20_22, m20_25, m20_27, m20_30, m20_31u, m20_33, m20_34, m20_35, m20_38, m20_39, m20_42, m20_45, m20_46, m20_47, m20_50, m20_51, m20_52, m20_55, m20_56, m20_57, m20_60, m20_61, m20_62, m20_65, m20_67u, m20_69, m20_72, m20_74, m20_75, m20_78, m20_80, m20_82, m20_85, m20_87u, m20_89, m20_92, m20_93u, m20_95, m20_97, m20_98, m20_99, m20_100, m20_102, m20_105u, m20_107, m20_109, m20_111, m20_114, m20_115, m20_116, m20_118, m20_121, m20_122, m20_125, m20_126u, m20_128, m20_130, m20_133u, m20_135, m20_137, m20_139, m20_142, m20_143, m20_146, m20_148, m20_151, m20_152, m20_153, m20_155, m20_158, m20_160, m20_163, m20_164, m20_167, m20_168, m20_171, m20_172, m20_173, m20_175, m20_176, m20_179, m20_181, m20_184, m20_185, m20_188, m20_189, m20_192, m20_193, m20_194, m20_196, m20_197, m20_200, m20_202, m20_205, m20_206, m20_209, m20_210, m20_213, m20_214, m20_215, m20_217, m20_220, m20_222, m20_225, m20_226, m20_229, m20_230, m20_233, m20_234, m20_235, m20_237, m20_240, m20_241, m20_244, m20_245, m20_246, m20_248, m20_251, m20_253, m20_256, m20_257, m20_258, m20_260, m20_261, m20_262, m20_263, m20_265, m20_268u, m20_270, m20_272, m20_275, m20_277, m20_278, m20_281, m20_282, m20_285, m20_287, m20_290, m20_292u, m20_294, m20_296, m20_298, m20_301, m20_302, m20_305, m20_306, nb0, nb1, ou_a, Option.toList_some, Option.toList_none, List.nil_append, List.cons_append, getA_set2, setA_len, inB_iff, A0g_0, A0g_1, A0g_2, A0g_3, A0g_4, A0g_5, A0g_6, A0g_7, A0g_8, A0g_9, A0g_10, A0g_11, A0g_12, A0g_13, A0g_14, A0g_15, A0g_16, A0g_17, A0g_18, A0g_19, A0l_0, A0l_1, A0l_2, A0l_3, A0l_4, A0l_5, A0l_6, A0l_7, A0l_8, A0l_9, A0l_10, A0l_11, A0l_12, A0l_13, A0l_14, A0l_15, A0l_16, A0l_17, A0l_18, A0l_19]
    refine ⟨?_, ?_⟩ <;> simp only [ou_a, setA_len, put_len, put_tot, pad_0, tot_nil, List.length_nil, List.length_cons, A0l_0, A0l_1, A0l_2, A0l_3, A0l_4, A0l_5, A0l_6, A0l_7, A0l_8, A0l_9, A0l_10, A0l_11, A0l_12, A0l_13, A0l_14, A0l_15, A0l_16, A0l_17, A0l_18, A0l_19] <;> simp [setA_len, put_len, put_tot, pad_0, tot_nil, List.length_nil, List.length_cons, A0l_0, A0l_1, A0l_2, A0l_3, A0l_4, A0l_5, A0l_6, A0l_7, A0l_8, A0l_9, A0l_10, A0l_11, A0l_12, A0l_13, A0l_14, A0l_15, A0l_16, A0l_17, A0l_18, A0l_19]
  by_cases b8 : 63 < i4
  · simp [a1, a2, a3, a4, a5, b1, b2, b3, b4, b5, b6, b7, b8, m0_0, m0_1, m0_4, m0_5, m0_12, m0_13, m0_20, m0_21, m0_28, m0_29, m0_36, m0_37, m0_44, m0_45, m0_52, m0_53, m0_60, m0_61, m0_68, m0_69, m0_75, m0_76, m0_82, m0_83, m0_89, m0_90, m0_96, m0_97, m0_104, m0_105, m0_112, m0_113, m0_120, m0_121, m0_128, m0_129, m0_136, m0_137, m0_144, m0_145, m0_152, m0_153, m0_160, m0_161u, m0_162, m0_163, m0_164, m0_167, m0_168i, m0_169, m0_170, m0_172, m0_175, m0_177i, m0_178, m0_179, m0_180, m0_183, m0_184, m0_185, m0_188, m0_189, m0_190, m0_193, m0_194, m0_195, m0_198, m0_199, m0_200, m0_203, m0_204u, m0_205, m0_206, m0_207, m0_210, m0_211, m0_214, m0_215, m0_216, m0_217, m0_220, m0_223, m0_224, m0_227, m1_0, m1_1, m1_2, m1_5, m1_6, m1_7, m1_10, m1_11u, m1_12, m1_13, m1_15, m1_18, m1_19, m1_22, m1_23, m1_24, m1_25, m1_26, m1_29, m1_30, m1_31, m1_32, m1_33, m1_36, m1_37, m1_38, m1_39, m1_40, m1_43, m1_44, m1_45, m1_46, m1_47, m1_50, m1_51, m1_52, m1_53, m1_54, m1_57, m1_58, m1_59, m1_60, m1_63, m1_66, m2_0, m2_1, m2_4, m2_5, m2_8, m2_11, m2_12, m2_13, m2_14, m2_15, m2_18, m2_19, m2_22, m2_25, m2_27, m2_28, m2_29, m2_30, m2_33, m2_34, m2_35, m2_38, m2_40, m2_41, m2_42, m2_43, m2_46, m2_47, m2_48, m2_51, m2_53, m2_54, m2_56, m2_57, m2_60, m2_62, m2_64, m2_67, m2_69, m2_70, m2_71, m2_73, m2_76, m2_79, m2_81, m2_82, m2_83, m2_84, m2_87, m2_88, m2_89, m2_92, m2_93, m2_94, m2_97, m2_98, m2_99, m2_102, m2_103, m2_105, m2_108, m2_109u, m2_111, m2_113, m2_114, m2_117, m2_118, m2_121, m2_123, m2_124, m2_125, m2_126, m2_129, m2_131, m2_132, m2_133, m2_136, m2_139, m2_140, m3_0, m3_1, m3_4, m3_7, m3_9, m3_10, m3_11, m3_14u, m3_15, m3_16, m3_18, m3_21, m3_22, m3_23, m3_26, m3_27, m3_28, m3_29, m3_30, m3_33, m3_34, m3_37, m3_40u, m3_41, m3_42, m3_45, m3_48, m3_49, m3_50, m3_53, m3_54, m3_55, m3_58, m3_60, m3_61, m3_62, m3_63, m3_66, m3_67, m3_68, m3_69, m3_70, m3_73u, m3_74, m3_75, m3_78, m3_79, m3_80, m3_83, m3_84, m3_85, m3_88, m3_90, m3_91, m3_92, m3_93, m3_94, m3_95, m3_98, m3_99, m3_100, m3_101, m3_102, m3_105, m3_106, m3_107, m3_110, m3_111, m3_112, m3_115, m3_116, m3_117, m3_120, m3_121, m3_124, m3_125, m4_0, m4_1, m4_4, m5_0, m5_1, m5_2, m5_5, m5_8, m5_9, m5_10, m5_11, m5_14, m5_15, m5_16, m6_0, m6_1, m6_4, m6_5, m6_6, m6_9, m6_12, m6_13, m6_16, m6_17, m7_0, m7_1, m7_2, m7_5, m7_8, m7_9, m7_10, m7_11, m7_14, m7_15, m7_16, m8_0, m8_1, m8_4, m9_0, m9_1, m9_4, m10_0, m10_1u, m10_2, m10_3, m10_4, m10_7, m10_10, m10_11, m10_14, m10_15, m10_16, m10_17, m10_20, m10_21, m10_22, m10_25, m10_28, m10_29, m11_0, m11_1, m11_2, m11_5, m11_6, m11_7, m11_10, m11_13, m11_14, m11_15, m11_16, m11_17, m11_20u, m11_21, m11_22, m11_23, m11_26, m11_29, m11_30, m11_31, m11_32, m11_33, m11_34, m11_35, m12_0, m12_1u, m12_2, m12_3u, m12_5, m12_6u, m12_8, m12_10, m12_12, m12_15, m12_17, m12_20, m12_23, m12_24, m12_26, m12_27u, m12_27i, m12_27r, m12_29, m12_31i, m12_32, m12_34i, m12_36, m12_39, m12_42, m12_43, m13_0, m13_1, m13_4, m13_5, m13_6, m13_9, m13_10, m13_11, m13_14, m13_15, m13_16, m13_19, m13_20, m13_21, m13_24, m13_25, m13_26, m13_29, m13_30, m13_31, m13_34, m13_35, m13_36, m13_39, m13_40, m13_41u, m13_42, m13_43, m13_44, m13_47, m13_48, m13_51, m13_52, m13_53, m13_54, m13_55, m13_56, m13_57, m13_60, m13_61, m13_62, m13_63, m13_64, m13_67, m13_68, m13_69, m13_70, m13_71, m13_72, m13_73, m13_76, m13_77, m13_78, m13_79, m13_82, m13_85, m14_0, m14_1, m14_2, m14_5, m14_6u, m14_7, m14_8, m14_9, m14_12, m14_13, m14_14, m14_15, m14_18u, m14_18i, m14_18r, m14_19, m14_20, m14_23, m14_24, m14_25, m14_26, m14_27, m14_28, m14_29, m14_30, m14_33u, m14_33i, m14_33r, m14_35, m14_37, m14_40, m14_41, m14_42, m14_43, m14_46, m14_47, m14_49, m14_50, m14_53, m14_56, m14_57, m15_0, m15_1u, m15_2, m15_3, m15_4, m15_7, m15_8u, m15_8i, m15_8r, m15_9, m15_10u, m15_10i, m15_10r, m15_12, m15_14, m15_15, m15_18, m15_19, m15_22, m15_24, m15_25, m15_26, m15_27, m15_28, m15_29, m15_32, m15_33, m15_36, m15_38, m15_39, m15_40, m15_43, m15_44, m15_47, m15_49, m15_50i, m15_51, m15_54, m15_57, m15_58, m15_61, m15_62, m15_63, m15_64, m15_67, m15_70, m16_0, m16_1u, m16_2, m16_3, m16_6, m16_7, m16_8u, m16_10, m16_11u, m16_13, m16_15, m16_16, m16_19, m16_20, m16_23, m16_25, m16_26, m16_28, m16_31, m16_34, m16_35u, m16_35i, m16_35r, m16_37, m16_39, m16_40, m16_43, m16_44, m16_47, m16_49, m16_50, m16_51, m16_53, m16_54, m16_55u, m16_55i, m16_55r, m16_57, m16_59, m16_62, m16_63, m16_66, m16_68, m16_69, m16_71, m16_74, m16_76, m16_77, m16_80, m16_82i, m16_83, m16_86, m16_89, m16_92, m16_95, m16_96, m17_0, m17_1, m17_4, m17_5, m17_6, m17_7, m17_8u, m17_10, m17_12u, m17_14, m17_15u, m17_17, m17_19, m17_22, m17_25, m17_27, m17_28, m17_31, m17_32, m17_33, m17_36, m17_37, m17_38, m17_40, m17_41, m17_42, m17_43, m17_45, m17_48, m17_49u, m17_49i, m17_49r, m17_51, m17_53, m17_55, m17_58, m17_60, m17_61, m17_63i, m17_65, m17_68, m17_71, m17_72, m18_0, m18_1u, m18_3, m18_4, m18_7, m18_8, m18_9u, m18_11, m18_12u, m18_14, m18_16, m18_17, m18_20, m18_21, m18_24, m18_26, m18_27u, m18_27i, m18_27r, m18_29, m18_30, m18_33, m18_35, m18_36, m18_38, m18_41, m18_43, m18_46, m18_48, m18_49, m18_51, m18_52, m18_53, m18_54, m18_56, m18_57, m18_58, m18_61, m18_63, m18_64, m18_65, m18_66i, m18_68, m18_71, m18_74, m18_76, m19_0, m19_1u, m19_2, m19_3, m19_4, m19_7, m19_8, m19_11, m19_12, m19_13, m19_16, m19_17, m19_18, m19_19, m19_20, m19_23, m19_24, m19_25, m19_28, m19_29, m19_30, m19_31, m19_34, m19_37, m19_38i, m19_39, m19_40, m19_41, m19_44, m19_45, m19_48, m19_49, m19_50, m19_53, m19_54, m19_55, m19_56, m19_59, m19_62, m20_0, m20_3, m20_4, m20_5, m20_8u, m20_10, m20_11, m20_12, m20_15, m20_16, m20_19, m20_20, m20_22, m20_25, m20_27, m20_30, m20_31u, m20_33, m20_34, m20_35, m20_38, m20_39, m20_42, m20_45, m20_46, m20_47, m20_50, m20_51, m20_52, m20_55, m20_56, m20_57, m20_60, m20_61, m20_62, m20_65, m20_67u, m20_69, m20_72, m20_74, m20_75, m20_78, m20_80, m20_82, m20_85, m20_87u, m20_89, m20_92, m20_93u, m20_95, m20_97, m20_98, m20_99, m20_100, m20_102, m20_105u, m20_107, m20_109, m20_111, m20_114, m20_115, m20_116, m20_118, m20_121, m20_122, m20_125, m20_126u, m20_128, m20_130, m20_133u, m20_135, m20_137, m20_139, m20_142, m20_143, m20_146, m20_148, m20_151, m20_152, m20_153, m20_155, m20_158, m20_160, m20_163, m20_164, m20_167, m20_168, m20_171, m20_172, m20_173, m20_175, m20_176, m20_179, m20_181, m20_184, m20_185, m20_188, m20_189, m20_192, m20_193, m20_194, m20_196, m20_197, m20_200, m20_202, m20_205, m20_206, m20_209, m20_210, m20_213, m20_214, m20_215, m20_217, m20_220, m20_222, m20_225, m20_226, m20_229, m20_230, m20_233, m20_234, m20_235, m20_237, m20_240, m20_241, m20_244, m20_245, m20_246, m20_248, m20_251, m20_253, m20_256, m20_257, m20_258, m20_260, m20_261, m20_262, m20_263, m20_265, m20_268u, m20_270, m20_272, m20_275, m20_277, m20_278, m20_281, m20_282, m20_285, m20_287, m20_290, m20_292u, m20_294, m20_296, m20_298, m20_301, m20_302, m20_305, m20_306, nb0, nb1, ou_a, Option.toList_some, Option.toList_none, List.nil_append, List.cons_append, getA_set2, setA_len, inB_iff, A0g_0, A0g_1, A0g_2, A0g_3, A0g_4, A0g_5, A0g_6, A0g_7, A0g_8, A0g_9, A0g_10, A0g_11, A0g_12, A0g_13, A0g_14, A0g_15, A0g_16, A0g_17, A0g_18, A0g_19, A0l_0, A0l_1, A0l_2, A0l_3, A0l_4, A0l_5, A0l_6, A0l_7, A0l_8, A0l_9, A0l_10, A0l_11, A0l_12, A0l_13, A0l_14, A0l_15, A0l_16, A0l_17, A0l_18, A0l_19]
    refine ⟨?_, ?_⟩ <;> simp only [ou_a, setA_len, put_len, put_tot, pad_0, tot_nil, List.length_nil, List.length_cons, A0l_0, A0l_1, A0l_2, A0l_3, A0l_4, A0l_5, A0l_6, A0l_7, A0l_8, A0l_9, A0l_10, A0l_11, A0l_12, A0l_13, A0l_14, A0l_15, A0l_16, A0l_17, A0l_18, A0l_19] <;> simp [setA_len, put_len, put_tot, pad_0, tot_nil, List.length_nil, List.length_cons, A0l_0, A0l_1, A0l_2, A0l_3, A0l_4, A0l_5, A0l_6, A0l_7, A0l_8, A0l_9, A0l_10, A0l_11, A0l_12, A0l_13, A0l_14, A0l_15, A0l_16, A0l_17, A0l_18, A0l_19]
  have n3 := own_nn b5
  by_cases d : i1 = 1
  · subst d
    simp [a1, a2, a3, a4, a5, b1, b2, b3, b4, b5, b6, b7, b8, n3, own_irr, own_mod1, m0_0, m0_1, m0_4, m0_5, m0_12, m0_13, m0_20, m0_21, m0_28, m0_29, m0_36, m0_37, m0_44, m0_45, m0_52, m0_53, m0_60, m0_61, m0_68, m0_69, m0_75, m0_76, m0_82, m0_83, m0_89, m0_90, m0_96, m0_97, m0_104, m0_105, m0_112, m0_113, m0_120, m0_121, m0_128, m0_129, m0_136, m0_137, m0_144, m0_145, m0_152, m0_153, m0_160, m0_161u, m0_162, m0_163, m0_164, m0_167, m0_168i, m0_169, m0_170, m0_172, m0_175, m0_177i, m0_178, m0_179, m0_180, m0_183, m0_184, m0_185, m0_188, m0_189, m0_190, m0_193, m0_194, m0_195, m0_198, m0_199, m0_200, m0_203, m0_204u, m0_205, m0_206, m0_207, m0_210, m0_211, m0_214, m0_215, m0_216, m0_217, m0_220, m0_223, m0_224, m0_227, m1_0, m1_1, m1_2, m1_5, m1_6, m1_7, m1_10, m1_11u, m1_12, m1_13, m1_15, m1_18, m1_19, m1_22, m1_23, m1_24, m1_25, m1_26, m1_29, m1_30, m1_31, m1_32, m1_33, m1_36, m1_37, m1_38, m1_39, m1_40, m1_43, m1_44, m1_45, m1_46, m1_47, m1_50, m1_51, m1_52, m1_53, m1_54, m1_57, m1_58, m1_59, m1_60, m1_63, m1_66, m2_0, m2_1, m2_4, m2_5, m2_8, m2_11, m2_12, m2_13, m2_14, m2_15, m2_18, m2_19, m2_22, m2_25, m2_27, m2_28, m2_29, m2_30, m2_33, m2_34, m2_35, m2_38, m2_40, m2_41, m2_42, m2_43, m2_46, m2_47, m2_48, m2_51, m2_53, m2_54, m2_56, m2_57, m2_60, m2_62, m2_64, m2_67, m2_69, m2_70, m2_71, m2_73, m2_76, m2_79, m2_81, m2_82, m2_83, m2_84, m2_87, m2_88, m2_89, m2_92, m2_93, m2_94, m2_97, m2_98, m2_99, m2_102, m2_103, m2_105, m2_108, m2_109u, m2_111, m2_113, m2_114, m2_117, m2_118, m2_121, m2_123, m2_124, m2_125, m2_126, m2_129, m2_131, m2_132, m2_133, m2_136, m2_139, m2_140, m3_0, m3_1, m3_4, m3_7, m3_9, m3_10, m3_11, m3_14u, m3_15, m3_16, m3_18, m3_21, m3_22, m3_23, m3_26, m3_27, m3_28, m3_29, m3_30, m3_33, m3_34, m3_37, m3_40u, m3_41, m3_42, m3_45, m3_48, m3_49, m3_50, m3_53, m3_54, m3_55, m3_58, m3_60, m3_61, m3_62, m3_63, m3_66, m3_67, m3_68, m3_69, m3_70, m3_73u, m3_74, m3_75, m3_78, m3_79, m3_80, m3_83, m3_84, m3_85, m3_88, m3_90, m3_91, m3_92, m3_93, m3_94, m3_95, m3_98, m3_99, m3_100, m3_101, m3_102, m3_105, m3_106, m3_107, m3_110, m3_111, m3_112, m3_115, m3_116, m3_117, m3_120, m3_121, m3_124, m3_125, m4_0, m4_1, m4_4, m5_0, m5_1, m5_2, m5_5, m5_8, m5_9, m5_10, m5_11, m5_14, m5_15, m5_16, m6_0, m6_1, m6_4, m6_5, m6_6, m6_9, m6_12, m6_13, m6_16, m6_17, m7_0, m7_1, m7_2, m7_5, m7_8, m7_9, m7_10, m7_11, m7_14, m7_15, m7_16, m8_0, m8_1, m8_4, m9_0, m9_1, m9_4, m10_0, m10_1u, m10_2, m10_3, m10_4, m10_7, m10_10, m10_11, m10_14, m10_15, m10_16, m10_17, m10_20, m10_21, m10_22, m10_25, m10_28, m10_29, m11_0, m11_1, m11_2, m11_5, m11_6, m11_7, m11_10, m11_13, m11_14, m11_15, m11_16, m11_17, m11_20u, m11_21, m11_22, m11_23, m11_26, m11_29, m11_30, m11_31, m11_32, m11_33, m11_34, m11_35, m12_0, m12_1u, m12_2, m12_3u, m12_5, m12_6u, m12_8, m12_10, m12_12, m12_15, m12_17, m12_20, m12_23, m12_24, m12_26, m12_27u, m12_27i, m12_27r, m12_29, m12_31i, m12_32, m12_34i, m12_36, m12_39, m12_42, m12_43, m13_0, m13_1, m13_4, m13_5, m13_6, m13_9, m13_10, m13_11, m13_14, m13_15, m13_16, m13_19, m13_20, m13_21, m13_24, m13_25, m13_26, m13_29, m13_30, m13_31, m13_34, m13_35, m13_36, m13_39, m13_40, m13_41u, m13_42, m13_43, m13_44, m13_47, m13_48, m13_51, m13_52, m13_53, m13_54, m13_55, m13_56, m13_57, m13_60, m13_61, m13_62, m13_63, m13_64, m13_67, m13_68, m13_69, m13_70, m13_71, m13_72, m13_73, m13_76, m13_77, m13_78, m13_79, m13_82, m13_85, m14_0, m14_1, m14_2, m14_5, m14_6u, m14_7, m14_8, m14_9, m14_12, m14_13, m14_14, m14_15, m14_18u, m14_18i, m14_18r, m14_19, m14_20, m14_23, m14_24, m14_25, m14_26, m14_27, m14_28, m14_29, m14_30, m14_33u, m14_33i, m14_33r, m14_35, m14_37, m14_40, m14_41, m14_42, m14_43, m14_46, m14_47, m14_49, m14_50, m14_53, m14_56, m14_57, m15_0, m15_1u, m15_2, m15_3, m15_4, m15_7, m15_8u, m15_8i, m15_8r, m15_9, m15_10u, m15_10i, m15_10r, m15_12, m15_14, m15_15, m15_18, m15_19, m15_22, m15_24, m15_25, m15_26, m15_27, m15_28, m15_29, m15_32, m15_33, m15_36, m15_38, m15_39, m15_40, m15_43, m15_44, m15_47, m15_49, m15_50i, m15_51, m15_54, m15_57, m15_58, m15_61, m15_62, m15_63, m15_64, m15_67, m15_70, m16_0, m16_1u, m16_2, m16_3, m16_6, m16_7, m16_8u, m16_10, m16_11u, m16_13, m16_15, m16_16, m16_19, m16_20, m16_23, m16_25, m16_26, m16_28, m16_31, m16_34, m16_35u, m16_35i, m16_35r, m16_37, m16_39, m16_40, m16_43, m16_44, m16_47, m16_49, m16_50, m16_51, m16_53, m16_54, m16_55u, m16_55i, m16_55r, m16_57, m16_59, m16_62, m16_63, m16_66, m16_68, m16_69, m16_71, m16_74, m16_76, m16_77, m16_80, m16_82i, m16_83, m16_86, m16_89, m16_92, m16_95, m16_96, m17_0, m17_1, m17_4, m17_5, m17_6, m17_7, m17_8u, m17_10, m17_12u, m17_14, m17_15u, m17_17, m17_19, m17_22, m17_25, m17_27, m17_28, m17_31, m17_32, m17_33, m17_36, m17_37, m17_38, m17_40, m17_41, m17_42, m17_43, m17_45, m17_48, m17_49u, m17_49i, m17_49r, m17_51, m17_53, m17_55, m17_58, m17_60, m17_61, m17_63i, m17_65, m17_68, m17_71, m17_72, m18_0, m18_1u, m18_3, m18_4, m18_7, m18_8, m18_9u, m18_11, m18_12u, m18_14, m18_16, m18_17, m18_20, m18_21, m18_24, m18_26, m18_27u, m18_27i, m18_27r, m18_29, m18_30, m18_33, m18_35, m18_36, m18_38, m18_41, m18_43, m18_46, m18_48, m18_49, m18_51, m18_52, m18_53, m18_54, m18_56, m18_57, m18_58, m18_61, m18_63, m18_64, m18_65, m18_66i, m18_68, m18_71, m18_74, m18_76, m19_0, m19_1u, m19_2, m19_3, m19_4, m19_7, m19_8, m19_11, m19_12, m19_13, m19_16, m19_17, m19_18, m19_19, m19_20, m19_23, m19_24, m19_25, m19_28, m19_29, m19_30, m19_31, m19_34, m19_37, m19_38i, m19_39, m19_40, m19_41, m19_44, m19_45, m19_48, m19_49, m19_50, m19_53, m19_54, m19_55, m19_56, m19_59, m19_62, m20_0, m20_3, m20_4, m20_5, m20_8u, m20_10, m20_11, m20_12, m20_15, m20_16, m20_19, m20_20, m20_22, m20_25, m20_27, m20_30, m20_31u, m20_33, m20_34, m20_35, m20_38, m20_39, m20_42, m20_45, m20_46, m20_47, m20_50, m20_51, m20_52, m20_55, m20_56, m20_57, m20_60, m20_61, m20_62, m20_65, m20_67u, m20_69, m20_72, m20_74, m20_75, m20_78, m20_80, m20_82, m20_85, m20_87u, m20_89, m20_92, m20_93u, m20_95, m20_97, m20_98, m20_99, m20_100, m20_102, m20_105u, m20_107, m20_109, m20_111, m20_114, m20_115, m20_116, m20_118, m20_121, m20_122, m20_125, m20_126u, m20_128, m20_130, m20_133u, m20_135, m20_137, m20_139, m20_142, m20_143, m20_146, m20_148, m20_151, m20_152, m20_153, m20_155, m20_158, m20_160, m20_163, m20_164, m20_167, m20_168, m20_171, m20_172, m20_173, m20_175, m20_176, m20_179, m20_181, m20_184, m20_185, m20_188, m20_189, m20_192, m20_193, m20_194, m20_196, m20_197, m20_200, m20_202, m20_205, m20_206, m20_209, m20_210, m20_213, m20_214, m20_215, m20_217, m20_220, m20_222, m20_225, m20_226, m20_229, m20_230, m20_233, m20_234, m20_235, m20_237, m20_240, m20_241, m20_244, m20_245, m20_246, m20_248, m20_251, m20_253, m20_256, m20_257, m20_258, m20_260, m20_261, m20_262, m20_263, m20_265, m20_268u, m20_270, m20_272, m20_275, m20_277, m20_278, m20_281, m20_282, m20_285, m20_287, m20_290, m20_292u, m20_294, m20_296, m20_298, m20_301, m20_302, m20_305, m20_306, nb0, nb1, ou_a, Option.toList_some, Option.toList_none, List.nil_append, List.cons_append, getA_set2, setA_len, inB_iff, A0g_0, A0g_1, A0g_2, A0g_3, A0g_4, A0g_5, A0g_6, A0g_7, A0g_8, A0g_9, A0g_10, A0g_11, A0g_12, A0g_13, A0g_14, A0g_15, A0g_16, A0g_17, A0g_18, A0g_19, A0l_0, A0l_1, A0l_2, A0l_3, A0l_4, A0l_5, A0l_6, A0l_7, A0l_8, A0l_9, A0l_10, A0l_11, A0l_12, A0l_13, A0l_14, A0l_15, A0l_16, A0l_17, A0l_18, A0l_19]
    refine ⟨?_, ?_⟩ <;> simp only [ou_a, setA_len, put_len, put_tot, pad_0, tot_nil, List.length_nil, List.length_cons, A0l_0, A0l_1, A0l_2, A0l_3, A0l_4, A0l_5, A0l_6, A0l_7, A0l_8, A0l_9, A0l_10, A0l_11, A0l_12, A0l_13, A0l_14, A0l_15, A0l_16, A0l_17, A0l_18, A0l_19] <;> simp [setA_len, put_len, put_tot, pad_0, tot_nil, List.length_nil, List.length_cons, A0l_0, A0l_1, A0l_2, A0l_3, A0l_4, A0l_5, A0l_6, A0l_7, A0l_8, A0l_9, A0l_10, A0l_11, A0l_12, A0l_13, A0l_14, A0l_15, A0l_16, A0l_17, A0l_18, A0l_19]
  have d0 := own_ne0 b1
  have d1 := own_1mod (own_gt1 b1 d)
  simp [a1, a2, a3, a4, a5, b1, b2, b3, b4, b5, b6, b7, b8, n3, d, d0, d1, own_irr, own_mod1, m0_0, m0_1, m0_4, m0_5, m0_12, m0_13, m0_20, m0_21, m0_28, m0_29, m0_36, m0_37, m0_44, m0_45, m0_52, m0_53, m0_60, m0_61, m0_68, m0_69, m0_75, m0_76, m0_82, m0_83, m0_89, m0_90, m0_96, m0_97, m0_104, m0_105, m0_112, m0_113, m0_120, m0_121, m0_128, m0_129, m0_136, m0_137, m0_144, m0_145, m0_152, m0_153, m0_160, m0_161u, m0_162, m0_163, m0_164, m0_167, m0_168i, m0_169, m0_170, m0_172, m0_175, m0_177i, m0_178, m0_179, m0_180, m0_183, m0_184, m0_185, m0_188, m0_189, m0_190, m0_193, m0_194, m0_195, m0_198, m0_199, m0_200, m0_203, m0_204u, m0_205, m0_206, m0_207, m0_210, m0_211, m0_214, m0_215, m0_216, m0_217, m0_220, m0_223, m0_224, m0_227, m1_0, m1_1, m1_2, m1_5, m1_6, m1_7, m1_10, m1_11u, m1_12, m1_13, m1_15, m1_18, m1_19, m1_22, m1_23, m1_24, m1_25, m1_26, m1_29, m1_30, m1_31, m1_32, m1_33, m1_36, m1_37, m1_38, m1_39, m1_40, m1_43, m1_44, m1_45, m1_46, m1_47, m1_50, m1_51, m1_52, m1_53, m1_54, m1_57, m1_58, m1_59, m1_60, m1_63, m1_66, m2_0, m2_1, m2_4, m2_5, m2_8, m2_11, m2_12, m2_13, m2_14, m2_15, m2_18, m2_19, m2_22, m2_25, m2_27, m2_28, m2_29, m2_30, m2_33, m2_34, m2_35, m2_38, m2_40, m2_41, m2_42, m2_43, m2_46, m2_47, m2_48, m2_51, m2_53, m2_54, m2_56, m2_57, m2_60, m2_62, m2_64, m2_67, m2_69, m2_70, m2_71, m2_73, m2_76, m2_79, m2_81, m2_82, m2_83, m2_84, m2_87, m2_88, m2_89, m2_92, m2_93, m2_94, m2_97, m2_98, m2_99, m2_102, m2_103, m2_105, m2_108, m2_109u, m2_111, m2_113, m2_114, m2_117, m2_118, m2_121, m2_123, m2_124, m2_125, m2_126, m2_129, m2_131, m2_132, m2_133, m2_136, m2_139, m2_140, m3_0, m3_1, m3_4, m3_7, m3_9, m3_10, m3_11, m3_14u, m3_15, m3_16, m3_18, m3_21, m3_22, m3_23, m3_26, m3_27, m3_28, m3_29, m3_30, m3_33, m3_34, m3_37, m3_40u, m3_41, m3_42, m3_45, m3_48, m3_49, m3_50, m3_53, m3_54, m3_55, m3_58, m3_60, m3_61, m3_62, m3_63, m3_66, m3_67, m3_68, m3_69, m3_70, m3_73u, m3_74, m3_75, m3_78, m3_79, m3_80, m3_83, m3_84, m3_85, m3_88, m3_90, m3_91, m3_92, m3_93, m3_94, m3_95, m3_98, m3_99, m3_100, m3_101, m3_102, m3_105, m3_106, m3_107, m3_110, m3_111, m3_112, m3_115, m3_116, m3_117, m3_120, m3_121, m3_124, m3_125, m4_0, m4_1, m4_4, m5_0, m5_1, m5_2, m5_5, m5_8, m5_9, m5_10, m5_11, m5_14, m5_15, m5_16, m6_0, m6_1, m6_4, m6_5, m6_6, m6_9, m6_12, m6_13, m6_16, m6_17, m7_0, m7_1, m7_2, m7_5, m7_8, m7_9, m7_10, m7_11, m7_14, m7_15, m7_16, m8_0, m8_1, m8_4, m9_0, m9_1, m9_4, m10_0, m10_1u, m10_2, m10_3, m10_4, m10_7, m10_10, m10_11, m10_14, m10_15, m10_16, m10_17, m10_20, m10_21, m10_22, m10_25, m10_28, m10_29, m11_0, m11_1, m11_2, m11_5, m11_6, m11_7, m11_10, m11_13, m11_14, m11_15, m11_16, m11_17, m11_20u, m11_21, m11_22, m11_23, m11_26, m11_29, m11_30, m11_31, m11_32, m11_33, m11_34, m11_35, m12_0, m12_1u, m12_2, m12_3u, m12_5, m12_6u, m12_8, m12_10, m12_12, m12_15, m12_17, m12_20, m12_23, m12_24, m12_26, m12_27u, m12_27i, m12_27r, m12_29, m12_31i, m12_32, m12_34i, m12_36, m12_39, m12_42, m12_43, m13_0, m13_1, m13_4, m13_5, m13_6, m13_9, m13_10, m13_11, m13_14, m13_15, m13_16, m13_19, m13_20, m13_21, m13_24, m13_25, m13_26, m13_29, m13_30, m13_31, m13_34, m13_35, m13_36, m13_39, m13_40, m13_41u, m13_42, m13_43, m13_44, m13_47, m13_48, m13_51, m13_52, m13_53, m13_54, m13_55, m13_56, m13_57, m13_60, m13_61, m13_62, m13_63, m13_64, m13_67, m13_68, m13_69, m13_70, m13_71, m13_72, m13_73, m13_76, m13_77, m13_78, m13_79, m13_82, m13_85, m14_0, m14_1, m14_2, m14_5, m14_6u, m14_7, m14_8, m14_9, m14_12, m14_13, m14_14, m14_15, m14_18u, m14_18i, m14_18r, m14_19, m14_20, m14_23, m14_24, m14_25, m14_26, m14_27, m14_28, m14_29, m14_30, m14_33u, m14_33i, m14_33r, m14_35, m14_37, m14_40, m14_41, m14_42, m14_43, m14_46, m14_47, m14_49, m14_50, m14_53, m14_56, m14_57, m15_0, m15_1u, m15_2, m15_3, m15_4, m15_7, m15_8u, m15_8i, m15_8r, m15_9, m15_10u, m15_10i, m15_10r, m15_12, m15_14, m15_15, m15_18, m15_19, m15_22, m15_24, m15_25, m15_26, m15_27, m15_28, m15_29, m15_32, m15_33, m15_36, m15_38, m15_39, m15_40, m15_43, m15_44, m15_47, m15_49, m15_50i, m15_51, m15_54, m15_57, m15_58, m15_61, m15_62, m15_63, m15_64, m15_67, m15_70, m16_0, m16_1u, m16_2, m16_3, m16_6, m16_7, m16_8u, m16_10, m16_11u, m16_13, m16_15, m16_16, m16_19, m16_20, m16_23, m16_25, m16_26, m16_28, m16_31, m16_34, m16_35u, m16_35i, m16_35r, m16_37, m16_39, m16_40, m16_43, m16_44, m16_47, m16_49, m16_50, m16_51, m16_53, m16_54, m16_55u, m16_55i, m16_55r, m16_57, m16_59, m16_62, m16_63, m16_66, m16_68, m16_69, m16_71, m16_74, m16_76, m16_77, m16_80, m16_82i, m16_83, m16_86, m16_89, m16_92, m16_95, m16_96, m17_0, m17_1, m17_4, m17_5, m17_6, m17_7, m17_8u, m17_10, m17_12u, m17_14, m17_15u, m17_17, m17_19, m17_22, m17_25, m17_27, m17_28, m17_31, m17_32, m17_33, m17_36, m17_37, m17_38, m17_40, m17_41, m17_42, m17_43, m17_45, m17_48, m17_49u, m17_49i, m17_49r, m17_51, m17_53, m17_55, m17_58, m17_60, m17_61, m17_63i, m17_65, m17_68, m17_71, m17_72, m18_0, m18_1u, m18_3, m18_4, m18_7, m18_8, m18_9u, m18_11, m18_12u, m18_14, m18_16, m18_17, m18_20, m18_21, m18_24, m18_26, m18_27u, m18_27i, m18_27r, m18_29, m18_30, m18_33, m18_35, m18_36, m18_38, m18_41, m18_43, m18_46, m18_48, m18_49, m18_51, m18_52, m18_53, m18_54, m18_56, m18_57, m18_58, m18_61, m18_63, m18_64, m18_65, m18_66i, m18_68, m18_71, m18_74, m18_76, m19_0, m19_1u, m19_2, m19_3, m19_4, m19_7, m19_8, m19_11, m19_12, m19_13, m19_16, m19_17, m19_18, m19_19, m19_20, m19_23, m19_24, m19_25, m19_28, m19_29, m19_30, m19_31, m19_34, m19_37, m19_38i, m19_39, m19_40, m19_41, m19_44, m19_45, m19_48, m19_49, m19_50, m19_53, m19_54, m19_55, m19_56, m19_59, m19_62, m20_0, m20_3, m20_4, m20_5, m20_8u, m20_10, m20_11, m20_12, m20_15, m20_16, m20_19, m20_20, m20_22, m20_25, m20_27, m20_30, m20_31u, m20_33, m20_34, m20_35, m20_38, m20_39, m20_42, m20_45, m20_46, m20_47, m20_50, m20_51, m20_52, m20_55, m20_56, m20_57, m20_60, m20_61, m20_62, m20_65, m20_67u, m20_69, m20_72, m20_74, m20_75, m20_78, m20_80, m20_82, m20_85, m20_87u, m20_89, m20_92, m20_93u, m20_95, m20_97, m20_98, m20_99, m20_100, m20_102, m20_105u, m20_107, m20_109, m20_111, m20_114, m20_115, m20_116, m20_118, m20_121, m20_122, m20_125, m20_126u, m20_128, m20_130, m20_133u, m20_135, m20_137, m20_139, m20_142, m20_143, m20_146, m20_148, m20_151, m20_152, m20_153, m20_155, m20_158, m20_160, m20_163, m20_164, m20_167, m20_168, m20_171, m20_172, m20_173, m20_175, m20_176, m20_179, m20_181, m20_184, m20_185, m20_188, m20_189, m20_192, m20_193, m20_194, m20_196, m20_197, m20_200, m20_202, m20_205, m20_206, m20_209, m20_210, m20_213, m20_214, m20_215, m20_217, m20_220, m20_222, m20_225, m20_226, m20_229, m20_230, m20_233, m20_234, m20_235, m20_237, m20_240, m20_241, m20_244, m20_245, m20_246, m20_248, m20_251, m20_253, m20_256, m20_257, m20_258, m20_260, m20_261, m20_262, m20_263, m20_265, m20_268u, m20_270, m20_272, m20_275, m20_277, m20_278, m20_281, m20_282, m20_285, m20_287, m20_290, m20_292u, m20_294, m20_296, m20_298, m20_301, m20_302, m20_305, m20_306, nb0, nb1, ou_a, Option.toList_some, Option.toList_none, List.nil_append, List.cons_append, getA_set2, setA_len, inB_iff, A0g_0, A0g_1, A0g_2, A0g_3, A0g_4, A0g_5, A0g_6, A0g_7, A0g_8, A0g_9, A0g_10, A0g_11, A0g_12, A0g_13, A0g_14, A0g_15, A0g_16, A0g_17, A0g_18, A0g_19, A0l_0, A0l_1, A0l_2, A0l_3, A0l_4, A0l_5, A0l_6, A0l_7, A0l_8, A0l_9, A0l_10, A0l_11, A0l_12, A0l_13, A0l_14, A0l_15, A0l_16, A0l_17, A0l_18, A0l_19]
  refine ⟨?_, ?_⟩ <;> simp only [ou_a, setA_len, put_len, put_tot, pad_0, tot_nil, List.length_nil, List.length_cons, A0l_0, A0l_1, A0l_2, A0l_3, A0l_4, A0l_5, A0l_6, A0l_7, A0l_8, A0l_9, A0l_10, A0l_11, A0l_12, A0l_13, A0l_14, A0l_15, A0l_16, A0l_17, A0l_18, A0l_19] <;> simp [setA_len, put_len, put_tot, pad_0, tot_nil, List.length_nil, List.length_cons, A0l_0, A0l_1, A0l_2, A0l_3, A0l_4, A0l_5, A0l_6, A0l_7, A0l_8, A0l_9, A0l_10, A0l_11, A0l_12, A0l_13, A0l_14, A0l_15, A0l_16, A0l_17, A0l_18, A0l_19]
theorem own_dn : ∀ f' l', dnOf dn x = some (f', l') → f' ≤ room_1.frames ∧ l' ≤ room_1.locals := by
  have h : dnOf dn x = some (4, 70) := by decide +kernel
  intro f' l' q; rw [h] at q; cases q; decide
theorem own_pn : Jvm.plainName x.cls = true := by first | (simp [Jvm.plainName, overriddenIn, x]; done) | decide +kernel
theorem own_rm (l : Launch) (Z : State) (a0 : Array Value) (hw : ∀ d ∈ tables_1, d.before a0 Z = true) (i0 : Int32) (i1 : Int32) (i2 : Int32) (i3 : Int32) (i4 : Int32) (h : Heap) :
    MetFree l x (head1 (Jvm.Cond.code x code maxLocals ret :: tables_1) room_1) (fun a U => a = #[.int i0, .int i1, .int i2, .int i3, .int i4] ∧ Z.Warmed39 U.vm ∧ U.heap = h) (fun _ _ _ _ _ => True) (fun _ U o U' => ∃ w L, o = .returned w ∧ (w = some (.int 1) ∧ Fr h.size L) ∧ FrameEnd U o U' L 56 576) :=
  law_of (as := [.int i0, .int i1, .int i2, .int i3, .int i4]) (mx := maxLocals) (f := room_1.frames) (lc := room_1.locals) hw l tables_1 own_pn (by show 5 ≤ 13; omega) (own_law i0 i1 i2 i3 i4) own_dn (Sim.empty Z tables_1 h)
set_option maxRecDepth 65536 in
set_option maxHeartbeats 40000000 in
theorem comes_1 {Post : Tables → Env → Array Value → State → Outcome → State → Prop} (hpost : ∀ tb e args s v u, (limb_1_1.after args s (.returned v) u = true ∧ limb_1_2.after args s (.returned v) u = true ∧ True) → FrameEnd s (.returned v) u (Jvm.fieldLocs frame_1_writes args s ++ Jvm.arrayLocs frame_1_arrays args s ++ Jvm.staticLocs frame_1_statics s) 56 576 → Post tb e args s (.returned v) u) :
    ArmFor flags0 classFile x code maxLocals ret World_1 tables_1 room_1 Calls_1 rest_1 Pre_1 Post := by
  intro l hfl _ _ p e ha hc hk s m args below hf hA hF happ hP
  obtain ⟨hcalls, hrest, hpre⟩ := hP
  obtain ⟨-, -, -, hnamed, -, -, -, hat⟩ := (Spec.applies_iff hf).mp happ
  obtain ⟨hg, hn⟩ := and_e (Cond.before_iff.mp (show (Jvm.Cond.and given_1 narrow_1).before args s = true from hpre))
  obtain ⟨g0, t0⟩ := and_e hg
  obtain ⟨q0, t1⟩ := and_e t0
  obtain ⟨q1, t2⟩ := and_e t1
  obtain ⟨q2, t3⟩ := and_e t2
  obtain ⟨q3, t4⟩ := and_e t3
  have q4 := t4
  obtain ⟨w0, w1, w2, w3, w4, rfl⟩ : ∃ w0 w1 w2 w3 w4 : Value, args = #[w0, w1, w2, w3, w4] := by
    have hs : args.size = 5 := by simpa [Cond.value, given_1] using g0
    obtain ⟨L⟩ := args
    match L, hs with
    | [w0, w1, w2, w3, w4], _ => exact ⟨w0, w1, w2, w3, w4, rfl⟩
  have hw := fun d (hd : d ∈ tables_1) => atoms_spec (ws := Jvm.Cond.code x code maxLocals ret :: tables_1) hat d (List.mem_cons_of_mem _ hd)
  obtain ⟨i0, ei0⟩ := is_v q0
  obtain rfl : w0 = (.int i0) := Option.some.inj ei0
  obtain ⟨i1, ei1⟩ := is_v q1
  obtain rfl : w1 = (.int i1) := Option.some.inj ei1
  obtain ⟨i2, ei2⟩ := is_v q2
  obtain rfl : w2 = (.int i2) := Option.some.inj ei2
  obtain ⟨i3, ei3⟩ := is_v q3
  obtain rfl : w3 = (.int i3) := Option.some.inj ei3
  obtain ⟨i4, ei4⟩ := is_v q4
  obtain rfl : w4 = (.int i4) := Option.some.inj ei4
  obtain ⟨n, o, h1, h2, h3, _, L, rfl, ⟨rfl, N⟩, hq⟩ := own_rm l s _ hw i0 i1 i2 i3 i4 s.heap p e ha hc hk s m _ below hf ((Spec.applies_iff_loose hf).mp happ).1 ⟨rfl, State.Warmed39.refl s, rfl⟩ trivial
  exact ⟨n, _, h1, h2, h3, hpost _ _ _ _ _ _ ⟨Cond.after_iff.mpr rfl, Cond.after_iff.mpr (eq_i res_at (Term.int_eval (1)) rfl), trivial⟩ ⟨hq.1, hq.2.1, (hq.2.2.sift fun y hy => Or.inr (N y hy)).mono (by decide) (by decide)⟩⟩
theorem main_1_1 : Claimed_1_1 := comes_1 fun _ _ _ _ _ _ h hF => ⟨h.1, hF⟩
theorem main_1_2 : Claimed_1_2 := comes_1 fun _ _ _ _ _ _ h hF => ⟨h.2.1, hF⟩
end Jvm.Pilot.@@N@@
namespace Jvm.Pilot.@@N@@
open Jvm Jvm.ClassFile Sem Op Lib Jvm.Free Jvm.Stand Jvm.Pilot.@@N@@.Jvm.D
/-! MADE BY PROGRAM (witnessworld.py) out of the Statement's table words and the real class files: 11 classes; the members and pool entries that the words name. The judged class is class 1, her method 1. -/
namespace start1
open Jvm.ClassFile
def u (s : String) : CpInfo := .utf8 (stringToUtf16 s)
/-- a pool by its gaps: so many unusable entries, then the entry; so many at the end -/
def gap : Nat → List CpInfo → List CpInfo
  | 0, r => r
  | n + 1, r => .unusable :: gap n r
def poolList (es : List (Nat × CpInfo)) (last : Nat) : List CpInfo := es.foldr (fun e r => gap e.1 (e.2 :: r)) (gap last [])
def pool (es : List (Nat × CpInfo)) (last : Nat) : Array CpInfo := ⟨poolList es last⟩
def fileOf (pool : Array CpInfo) (this : Nat) (attrs : Array Attribute := #[]) (ms : Array MethodInfo := #[]) (fl : Nat := 33) (sup : Nat := 0) (ifs : Array Nat := #[]) (fds : Array FieldInfo := #[]) : ClassFile where
  minorVersion := 0
  majorVersion := 65
  constantPool := pool
  accessFlags := fl
  thisClass := this
  superClass := sup
  interfaces := ifs
  fields := fds
  methods := ms
  attributes := attrs
def plain (name : String) (sup : Option ClassId) : Class where
  name := name
  kind := .ordinary
  loader := none
  accessFlags := 33
  super := sup
  interfaces := #[]
  cf := none
  fields := #[]
  methods := #[]
  instanceTypes := #[]
  staticTypes := #[]
  resolved := #[]
  callSites := []
  init := .initialized
  statics := none
  mirror := none

def pool0 : Array CpInfo := pool [(5, u "<init>"), (0, u "()V"), (1, .class_ 10), (1, u "java/lang/Object")] 113

def k0c0 : Code := { maxStack := 0, maxLocals := 1, code := object_method_1_code, exceptionTable := #[], attributes := #[] }
def k0m0 : Method := { name := "<init>", desc := "()V", sig := { parameters := [], returnType := none }, accessFlags := 1, code := some k0c0 }
/-- java/lang/Object -/
def k0 : Class := { plain "java/lang/Object" none with
  accessFlags := 33
  interfaces := #[]
  cf := some (fileOf pool0 8 #[] #[{ accessFlags := 1, nameIndex := 5, descriptorIndex := 6, attributes := #[] }] 33 0 #[] #[])
  fields := #[]
  methods := #[k0m0]
  instanceTypes := #[]
  staticTypes := #[]
  resolved := Array.replicate 124 none
  statics := none }

def pool1 : Array CpInfo := pool [(2, .class_ 4), (1, u "java/lang/Object"), (0, u "<init>"), (0, u "()V"), (0, .class_ 8), (0, u "ResponseTimeGate"), (0, .methodref 7 10), (0, .nameAndType 5 11), (0, u "(I)V"), (0, .methodref 7 13), (0, .nameAndType 14 15), (0, u "beginTask"), (0, u "(IIII)I"), (0, .methodref 7 17), (0, .nameAndType 18 19), (0, u "commitTask"), (0, u "()I"), (0, .methodref 7 21), (0, .nameAndType 22 19), (0, u "taskCount"), (0, .methodref 7 24), (0, .nameAndType 25 26), (0, u "bound"), (0, u "(I)I"), (0, .methodref 7 28), (0, .nameAndType 29 26), (0, u "blocking"), (0, .methodref 7 31), (0, .nameAndType 32 19), (0, u "hyperperiod"), (0, .methodref 7 34), (0, .nameAndType 35 19), (0, u "failedTask"), (0, .class_ 37), (0, u "ResponseTimeGateL2"), (2, u "law"), (0, u "(IIIII)Z")] 3

def k1m0 : Method := { name := "<init>", desc := "()V", sig := { parameters := [], returnType := none }, accessFlags := 1, code := none }
def k1c1 : Code := { maxStack := 5, maxLocals := 13, code := code, exceptionTable := #[], attributes := #[] }
def k1m1 : Method := { name := "law", desc := "(IIIII)Z", sig := { parameters := [.int, .int, .int, .int, .int], returnType := some .boolean }, accessFlags := 9, code := some k1c1 }
/-- ResponseTimeGateL2 -/
def k1 : Class := { plain "ResponseTimeGateL2" (some 0) with
  accessFlags := 49
  interfaces := #[]
  cf := some (fileOf pool1 36 #[] #[{ accessFlags := 1, nameIndex := 5, descriptorIndex := 6, attributes := #[] }, { accessFlags := 9, nameIndex := 40, descriptorIndex := 41, attributes := #[] }] 49 2 #[] #[])
  fields := #[]
  methods := #[k1m0, k1m1]
  instanceTypes := #[]
  staticTypes := #[]
  resolved := Array.replicate 45 none
  statics := none }

def pool2 : Array CpInfo := pool [(1, .methodref 2 3), (0, .class_ 4), (0, .nameAndType 5 6), (0, u "java/lang/Object"), (0, u "<init>"), (0, u "()V"), (0, .fieldref 8 9), (0, .class_ 10), (0, .nameAndType 11 12), (0, u "ResponseTimeGate"), (0, u "per"), (0, u "[I"), (0, .fieldref 8 14), (0, .nameAndType 15 12), (0, u "dl"), (0, .fieldref 8 17), (0, .nameAndType 18 12), (0, u "wc"), (0, .fieldref 8 20), (0, .nameAndType 21 12), (0, u "pr"), (0, .fieldref 8 23), (0, .nameAndType 24 12), (0, u "secS"), (0, .fieldref 8 26), (0, .nameAndType 27 12), (0, u "secL"), (0, .fieldref 8 29), (0, .nameAndType 30 12), (0, u "bnd"), (0, .fieldref 8 32), (0, .nameAndType 33 12), (0, u "blk"), (0, .fieldref 8 35), (0, .nameAndType 36 12), (0, u "ceil"), (0, .fieldref 8 38), (0, .nameAndType 39 12), (0, u "stS"), (0, .fieldref 8 41), (0, .nameAndType 42 12), (0, u "stL"), (0, .fieldref 8 44), (0, .nameAndType 45 12), (0, u "candCeil"), (0, .fieldref 8 47), (0, .nameAndType 48 12), (0, u "candB"), (0, .fieldref 8 50), (0, .nameAndType 51 12), (0, u "candR"), (0, .fieldref 8 53), (0, .nameAndType 54 55), (0, u "pend"), (0, u "[Z"), (0, .fieldref 8 57), (0, .nameAndType 58 12), (0, u "rel"), (0, .fieldref 8 60), (0, .nameAndType 61 12), (0, u "prog"), (0, .fieldref 8 63), (0, .nameAndType 64 12), (0, u "held"), (0, .fieldref 8 66), (0, .nameAndType 67 12), (0, u "done"), (0, .fieldref 8 69), (0, .nameAndType 70 12), (0, u "maxR"), (0, .fieldref 8 72), (0, .nameAndType 73 74), (0, u "cap"), (0, u "I"), (0, .fieldref 8 76), (0, .nameAndType 77 74), (0, u "count"), (0, .fieldref 8 79), (0, .nameAndType 80 81), (0, u "staged"), (0, u "Z"), (0, .fieldref 8 83), (0, .nameAndType 84 74), (0, u "failed"), (0, .fieldref 8 86), (0, .nameAndType 87 74), (0, u "hyper"), (0, .methodref 8 89), (0, .nameAndType 90 6), (0, u "resetSim"), (0, .methodref 8 92), (0, .nameAndType 93 94), (0, u "priorityTaken"), (0, u "(I)Z"), (0, .fieldref 8 96), (0, .nameAndType 97 74), (0, u "stT"), (0, .fieldref 8 99), (0, .nameAndType 100 74), (0, u "stD"), (0, .fieldref 8 102), (0, .nameAndType 103 74), (0, u "stC"), (0, .fieldref 8 105), (0, .nameAndType 106 74), (0, u "stP"), (4, .methodref 8 112), (0, .nameAndType 113 114), (0, u "lcmWith"), (0, u "(II)I"), (0, .methodref 8 116), (0, .nameAndType 117 118), (0, u "placeStaged"), (0, u "(I)V"), (0, .methodref 8 120), (0, .nameAndType 121 122), (0, u "analyze"), (0, u "(I)I"), (0, .methodref 8 124), (0, .nameAndType 125 118), (0, u "adoptResults"), (0, .methodref 8 127), (0, .nameAndType 128 114), (0, u "gcd"), (0, .methodref 8 130), (0, .nameAndType 131 118), (0, u "computeCeilings"), (0, .methodref 8 133), (0, .nameAndType 134 114), (0, u "blockingOf"), (0, .methodref 8 136), (0, .nameAndType 137 138), (0, u "responseOf"), (0, u "(III)I"), (0, .methodref 8 140), (0, .nameAndType 141 138), (0, u "interference"), (0, .methodref 8 143), (0, .nameAndType 144 94), (0, u "admitted"), (0, .fieldref 8 146), (0, .nameAndType 147 74), (0, u "now"), (0, .fieldref 8 149), (0, .nameAndType 150 74), (0, u "missCount"), (9, u "()I"), (15, u "MAX_TASKS"), (2, u "RESOURCES"), (1, u "MAX_PERIOD"), (1, u "HYPER_LIMIT"), (0, u "MAX_PRIORITY"), (1, u "MAX_RUN"), (0, u "OK"), (1, u "ERR_FULL"), (1, u "ERR_BAD_ARG"), (1, u "ERR_PRIORITY"), (1, u "ERR_NO_STAGED"), (1, u "ERR_SECTION"), (1, u "REJ_HYPER"), (1, u "REJ_DEADLINE"), (4, u "beginTask"), (0, u "(IIII)I"), (1, u "commitTask"), (0, u "taskCount"), (0, u "bound"), (0, u "blocking"), (1, u "hyperperiod"), (0, u "failedTask")] 9

def k2c0 : Code := { maxStack := 3, maxLocals := 4, code := prog_1_method_1_code, exceptionTable := #[], attributes := #[] }
def k2m0 : Method := { name := "<init>", desc := "(I)V", sig := { parameters := [.int], returnType := none }, accessFlags := 1, code := some k2c0 }
def k2c1 : Code := { maxStack := 3, maxLocals := 6, code := prog_1_method_2_code, exceptionTable := #[], attributes := #[] }
def k2m1 : Method := { name := "beginTask", desc := "(IIII)I", sig := { parameters := [.int, .int, .int, .int], returnType := some .int }, accessFlags := 1, code := some k2c1 }
def k2c2 : Code := { maxStack := 2, maxLocals := 3, code := prog_1_method_3_code, exceptionTable := #[], attributes := #[] }
def k2m2 : Method := { name := "priorityTaken", desc := "(I)Z", sig := { parameters := [.int], returnType := some .boolean }, accessFlags := 2, code := some k2c2 }
def k2c3 : Code := { maxStack := 3, maxLocals := 4, code := prog_1_method_6_code, exceptionTable := #[], attributes := #[] }
def k2m3 : Method := { name := "commitTask", desc := "()I", sig := { parameters := [], returnType := some .int }, accessFlags := 1, code := some k2c3 }
def k2c4 : Code := { maxStack := 4, maxLocals := 3, code := prog_1_method_7_code, exceptionTable := #[], attributes := #[] }
def k2m4 : Method := { name := "placeStaged", desc := "(I)V", sig := { parameters := [.int], returnType := none }, accessFlags := 2, code := some k2c4 }
def k2c5 : Code := { maxStack := 4, maxLocals := 3, code := prog_1_method_8_code, exceptionTable := #[], attributes := #[] }
def k2m5 : Method := { name := "adoptResults", desc := "(I)V", sig := { parameters := [.int], returnType := none }, accessFlags := 2, code := some k2c5 }
def k2c6 : Code := { maxStack := 2, maxLocals := 7, code := prog_1_method_9_code, exceptionTable := #[], attributes := #[] }
def k2m6 : Method := { name := "gcd", desc := "(II)I", sig := { parameters := [.int, .int], returnType := some .int }, accessFlags := 2, code := some k2c6 }
def k2c7 : Code := { maxStack := 3, maxLocals := 4, code := prog_1_method_10_code, exceptionTable := #[], attributes := #[] }
def k2m7 : Method := { name := "lcmWith", desc := "(II)I", sig := { parameters := [.int, .int], returnType := some .int }, accessFlags := 2, code := some k2c7 }
def k2c8 : Code := { maxStack := 4, maxLocals := 5, code := prog_1_method_11_code, exceptionTable := #[], attributes := #[] }
def k2m8 : Method := { name := "analyze", desc := "(I)I", sig := { parameters := [.int], returnType := some .int }, accessFlags := 2, code := some k2c8 }
def k2c9 : Code := { maxStack := 3, maxLocals := 5, code := prog_1_method_12_code, exceptionTable := #[], attributes := #[] }
def k2m9 : Method := { name := "computeCeilings", desc := "(I)V", sig := { parameters := [.int], returnType := none }, accessFlags := 2, code := some k2c9 }
def k2c10 : Code := { maxStack := 3, maxLocals := 8, code := prog_1_method_13_code, exceptionTable := #[], attributes := #[] }
def k2m10 : Method := { name := "blockingOf", desc := "(II)I", sig := { parameters := [.int, .int], returnType := some .int }, accessFlags := 2, code := some k2c10 }
def k2c11 : Code := { maxStack := 5, maxLocals := 8, code := prog_1_method_14_code, exceptionTable := #[], attributes := #[] }
def k2m11 : Method := { name := "responseOf", desc := "(III)I", sig := { parameters := [.int, .int, .int], returnType := some .int }, accessFlags := 2, code := some k2c11 }
def k2c12 : Code := { maxStack := 4, maxLocals := 8, code := prog_1_method_15_code, exceptionTable := #[], attributes := #[] }
def k2m12 : Method := { name := "interference", desc := "(III)I", sig := { parameters := [.int, .int, .int], returnType := some .int }, accessFlags := 2, code := some k2c12 }
def k2c13 : Code := { maxStack := 2, maxLocals := 2, code := prog_1_method_16_code, exceptionTable := #[], attributes := #[] }
def k2m13 : Method := { name := "admitted", desc := "(I)Z", sig := { parameters := [.int], returnType := some .boolean }, accessFlags := 2, code := some k2c13 }
def k2c14 : Code := { maxStack := 1, maxLocals := 1, code := prog_1_method_17_code, exceptionTable := #[], attributes := #[] }
def k2m14 : Method := { name := "taskCount", desc := "()I", sig := { parameters := [], returnType := some .int }, accessFlags := 1, code := some k2c14 }
def k2c15 : Code := { maxStack := 2, maxLocals := 2, code := prog_1_method_18_code, exceptionTable := #[], attributes := #[] }
def k2m15 : Method := { name := "bound", desc := "(I)I", sig := { parameters := [.int], returnType := some .int }, accessFlags := 1, code := some k2c15 }
def k2c16 : Code := { maxStack := 2, maxLocals := 2, code := prog_1_method_19_code, exceptionTable := #[], attributes := #[] }
def k2m16 : Method := { name := "blocking", desc := "(I)I", sig := { parameters := [.int], returnType := some .int }, accessFlags := 1, code := some k2c16 }
def k2c17 : Code := { maxStack := 1, maxLocals := 1, code := prog_1_method_21_code, exceptionTable := #[], attributes := #[] }
def k2m17 : Method := { name := "hyperperiod", desc := "()I", sig := { parameters := [], returnType := some .int }, accessFlags := 1, code := some k2c17 }
def k2c18 : Code := { maxStack := 1, maxLocals := 1, code := prog_1_method_22_code, exceptionTable := #[], attributes := #[] }
def k2m18 : Method := { name := "failedTask", desc := "()I", sig := { parameters := [], returnType := some .int }, accessFlags := 1, code := some k2c18 }
def k2c19 : Code := { maxStack := 3, maxLocals := 2, code := prog_1_method_23_code, exceptionTable := #[], attributes := #[] }
def k2m19 : Method := { name := "resetSim", desc := "()V", sig := { parameters := [], returnType := none }, accessFlags := 2, code := some k2c19 }
/-- ResponseTimeGate -/
def k2 : Class := { plain "ResponseTimeGate" (some 0) with
  accessFlags := 49
  interfaces := #[]
  cf := some (fileOf pool2 8 #[] #[{ accessFlags := 1, nameIndex := 5, descriptorIndex := 118, attributes := #[] }, { accessFlags := 1, nameIndex := 206, descriptorIndex := 207, attributes := #[] }, { accessFlags := 2, nameIndex := 93, descriptorIndex := 94, attributes := #[] }, { accessFlags := 1, nameIndex := 209, descriptorIndex := 160, attributes := #[] }, { accessFlags := 2, nameIndex := 117, descriptorIndex := 118, attributes := #[] }, { accessFlags := 2, nameIndex := 125, descriptorIndex := 118, attributes := #[] }, { accessFlags := 2, nameIndex := 128, descriptorIndex := 114, attributes := #[] }, { accessFlags := 2, nameIndex := 113, descriptorIndex := 114, attributes := #[] }, { accessFlags := 2, nameIndex := 121, descriptorIndex := 122, attributes := #[] }, { accessFlags := 2, nameIndex := 131, descriptorIndex := 118, attributes := #[] }, { accessFlags := 2, nameIndex := 134, descriptorIndex := 114, attributes := #[] }, { accessFlags := 2, nameIndex := 137, descriptorIndex := 138, attributes := #[] }, { accessFlags := 2, nameIndex := 141, descriptorIndex := 138, attributes := #[] }, { accessFlags := 2, nameIndex := 144, descriptorIndex := 94, attributes := #[] }, { accessFlags := 1, nameIndex := 210, descriptorIndex := 160, attributes := #[] }, { accessFlags := 1, nameIndex := 211, descriptorIndex := 122, attributes := #[] }, { accessFlags := 1, nameIndex := 212, descriptorIndex := 122, attributes := #[] }, { accessFlags := 1, nameIndex := 214, descriptorIndex := 160, attributes := #[] }, { accessFlags := 1, nameIndex := 215, descriptorIndex := 160, attributes := #[] }, { accessFlags := 2, nameIndex := 90, descriptorIndex := 6, attributes := #[] }] 49 2 #[] #[{ accessFlags := 25, nameIndex := 176, descriptorIndex := 74, attributes := #[] }, { accessFlags := 25, nameIndex := 179, descriptorIndex := 74, attributes := #[] }, { accessFlags := 25, nameIndex := 181, descriptorIndex := 74, attributes := #[] }, { accessFlags := 25, nameIndex := 183, descriptorIndex := 74, attributes := #[] }, { accessFlags := 25, nameIndex := 184, descriptorIndex := 74, attributes := #[] }, { accessFlags := 25, nameIndex := 186, descriptorIndex := 74, attributes := #[] }, { accessFlags := 25, nameIndex := 187, descriptorIndex := 74, attributes := #[] }, { accessFlags := 25, nameIndex := 189, descriptorIndex := 74, attributes := #[] }, { accessFlags := 25, nameIndex := 191, descriptorIndex := 74, attributes := #[] }, { accessFlags := 25, nameIndex := 193, descriptorIndex := 74, attributes := #[] }, { accessFlags := 25, nameIndex := 195, descriptorIndex := 74, attributes := #[] }, { accessFlags := 25, nameIndex := 197, descriptorIndex := 74, attributes := #[] }, { accessFlags := 25, nameIndex := 199, descriptorIndex := 74, attributes := #[] }, { accessFlags := 25, nameIndex := 201, descriptorIndex := 74, attributes := #[] }, { accessFlags := 2, nameIndex := 73, descriptorIndex := 74, attributes := #[] }, { accessFlags := 2, nameIndex := 77, descriptorIndex := 74, attributes := #[] }, { accessFlags := 2, nameIndex := 11, descriptorIndex := 12, attributes := #[] }, { accessFlags := 2, nameIndex := 15, descriptorIndex := 12, attributes := #[] }, { accessFlags := 2, nameIndex := 18, descriptorIndex := 12, attributes := #[] }, { accessFlags := 2, nameIndex := 21, descriptorIndex := 12, attributes := #[] }, { accessFlags := 2, nameIndex := 24, descriptorIndex := 12, attributes := #[] }, { accessFlags := 2, nameIndex := 27, descriptorIndex := 12, attributes := #[] }, { accessFlags := 2, nameIndex := 30, descriptorIndex := 12, attributes := #[] }, { accessFlags := 2, nameIndex := 33, descriptorIndex := 12, attributes := #[] }, { accessFlags := 2, nameIndex := 36, descriptorIndex := 12, attributes := #[] }, { accessFlags := 2, nameIndex := 87, descriptorIndex := 74, attributes := #[] }, { accessFlags := 2, nameIndex := 84, descriptorIndex := 74, attributes := #[] }, { accessFlags := 2, nameIndex := 80, descriptorIndex := 81, attributes := #[] }, { accessFlags := 2, nameIndex := 97, descriptorIndex := 74, attributes := #[] }, { accessFlags := 2, nameIndex := 100, descriptorIndex := 74, attributes := #[] }, { accessFlags := 2, nameIndex := 103, descriptorIndex := 74, attributes := #[] }, { accessFlags := 2, nameIndex := 106, descriptorIndex := 74, attributes := #[] }, { accessFlags := 2, nameIndex := 39, descriptorIndex := 12, attributes := #[] }, { accessFlags := 2, nameIndex := 42, descriptorIndex := 12, attributes := #[] }, { accessFlags := 2, nameIndex := 45, descriptorIndex := 12, attributes := #[] }, { accessFlags := 2, nameIndex := 48, descriptorIndex := 12, attributes := #[] }, { accessFlags := 2, nameIndex := 51, descriptorIndex := 12, attributes := #[] }, { accessFlags := 2, nameIndex := 147, descriptorIndex := 74, attributes := #[] }, { accessFlags := 2, nameIndex := 150, descriptorIndex := 74, attributes := #[] }, { accessFlags := 2, nameIndex := 54, descriptorIndex := 55, attributes := #[] }, { accessFlags := 2, nameIndex := 58, descriptorIndex := 12, attributes := #[] }, { accessFlags := 2, nameIndex := 61, descriptorIndex := 12, attributes := #[] }, { accessFlags := 2, nameIndex := 64, descriptorIndex := 12, attributes := #[] }, { accessFlags := 2, nameIndex := 67, descriptorIndex := 12, attributes := #[] }, { accessFlags := 2, nameIndex := 70, descriptorIndex := 12, attributes := #[] }])
  fields := #[{ name := "MAX_TASKS", type := .int, accessFlags := 25, slot := 0, constantValue := 0 }, { name := "RESOURCES", type := .int, accessFlags := 25, slot := 1, constantValue := 0 }, { name := "MAX_PERIOD", type := .int, accessFlags := 25, slot := 2, constantValue := 0 }, { name := "HYPER_LIMIT", type := .int, accessFlags := 25, slot := 3, constantValue := 0 }, { name := "MAX_PRIORITY", type := .int, accessFlags := 25, slot := 4, constantValue := 0 }, { name := "MAX_RUN", type := .int, accessFlags := 25, slot := 5, constantValue := 0 }, { name := "OK", type := .int, accessFlags := 25, slot := 6, constantValue := 0 }, { name := "ERR_FULL", type := .int, accessFlags := 25, slot := 7, constantValue := 0 }, { name := "ERR_BAD_ARG", type := .int, accessFlags := 25, slot := 8, constantValue := 0 }, { name := "ERR_PRIORITY", type := .int, accessFlags := 25, slot := 9, constantValue := 0 }, { name := "ERR_NO_STAGED", type := .int, accessFlags := 25, slot := 10, constantValue := 0 }, { name := "ERR_SECTION", type := .int, accessFlags := 25, slot := 11, constantValue := 0 }, { name := "REJ_HYPER", type := .int, accessFlags := 25, slot := 12, constantValue := 0 }, { name := "REJ_DEADLINE", type := .int, accessFlags := 25, slot := 13, constantValue := 0 }, { name := "cap", type := .int, accessFlags := 2, slot := 0, constantValue := 0 }, { name := "count", type := .int, accessFlags := 2, slot := 1, constantValue := 0 }, { name := "per", type := (.array .int), accessFlags := 2, slot := 2, constantValue := 0 }, { name := "dl", type := (.array .int), accessFlags := 2, slot := 3, constantValue := 0 }, { name := "wc", type := (.array .int), accessFlags := 2, slot := 4, constantValue := 0 }, { name := "pr", type := (.array .int), accessFlags := 2, slot := 5, constantValue := 0 }, { name := "secS", type := (.array .int), accessFlags := 2, slot := 6, constantValue := 0 }, { name := "secL", type := (.array .int), accessFlags := 2, slot := 7, constantValue := 0 }, { name := "bnd", type := (.array .int), accessFlags := 2, slot := 8, constantValue := 0 }, { name := "blk", type := (.array .int), accessFlags := 2, slot := 9, constantValue := 0 }, { name := "ceil", type := (.array .int), accessFlags := 2, slot := 10, constantValue := 0 }, { name := "hyper", type := .int, accessFlags := 2, slot := 11, constantValue := 0 }, { name := "failed", type := .int, accessFlags := 2, slot := 12, constantValue := 0 }, { name := "staged", type := .boolean, accessFlags := 2, slot := 13, constantValue := 0 }, { name := "stT", type := .int, accessFlags := 2, slot := 14, constantValue := 0 }, { name := "stD", type := .int, accessFlags := 2, slot := 15, constantValue := 0 }, { name := "stC", type := .int, accessFlags := 2, slot := 16, constantValue := 0 }, { name := "stP", type := .int, accessFlags := 2, slot := 17, constantValue := 0 }, { name := "stS", type := (.array .int), accessFlags := 2, slot := 18, constantValue := 0 }, { name := "stL", type := (.array .int), accessFlags := 2, slot := 19, constantValue := 0 }, { name := "candCeil", type := (.array .int), accessFlags := 2, slot := 20, constantValue := 0 }, { name := "candB", type := (.array .int), accessFlags := 2, slot := 21, constantValue := 0 }, { name := "candR", type := (.array .int), accessFlags := 2, slot := 22, constantValue := 0 }, { name := "now", type := .int, accessFlags := 2, slot := 23, constantValue := 0 }, { name := "missCount", type := .int, accessFlags := 2, slot := 24, constantValue := 0 }, { name := "pend", type := (.array .boolean), accessFlags := 2, slot := 25, constantValue := 0 }, { name := "rel", type := (.array .int), accessFlags := 2, slot := 26, constantValue := 0 }, { name := "prog", type := (.array .int), accessFlags := 2, slot := 27, constantValue := 0 }, { name := "held", type := (.array .int), accessFlags := 2, slot := 28, constantValue := 0 }, { name := "done", type := (.array .int), accessFlags := 2, slot := 29, constantValue := 0 }, { name := "maxR", type := (.array .int), accessFlags := 2, slot := 30, constantValue := 0 }]
  methods := #[k2m0, k2m1, k2m2, k2m3, k2m4, k2m5, k2m6, k2m7, k2m8, k2m9, k2m10, k2m11, k2m12, k2m13, k2m14, k2m15, k2m16, k2m17, k2m18, k2m19]
  instanceTypes := #[.int, .int, (.array .int), (.array .int), (.array .int), (.array .int), (.array .int), (.array .int), (.array .int), (.array .int), (.array .int), .int, .int, .boolean, .int, .int, .int, .int, (.array .int), (.array .int), (.array .int), (.array .int), (.array .int), .int, .int, (.array .boolean), (.array .int), (.array .int), (.array .int), (.array .int), (.array .int)]
  staticTypes := #[.int, .int, .int, .int, .int, .int, .int, .int, .int, .int, .int, .int, .int, .int]
  resolved := Array.replicate 225 none
  statics := none }

def pool3 : Array CpInfo := pool [(1, u "java/lang/Cloneable"), (0, .class_ 1), (0, u "java/lang/Object"), (0, .class_ 3)] 3

/-- java/lang/Cloneable -/
def k3 : Class := { plain "java/lang/Cloneable" (some 0) with
  accessFlags := 1537
  interfaces := #[]
  cf := some (fileOf pool3 2 #[] #[] 1537 4 #[] #[])
  fields := #[]
  methods := #[]
  instanceTypes := #[]
  staticTypes := #[]
  resolved := Array.replicate 8 none
  statics := none }

def pool4 : Array CpInfo := pool [(1, u "java/io/Serializable"), (0, .class_ 1), (0, u "java/lang/Object"), (0, .class_ 3)] 3

/-- java/io/Serializable -/
def k4 : Class := { plain "java/io/Serializable" (some 0) with
  accessFlags := 1537
  interfaces := #[]
  cf := some (fileOf pool4 2 #[] #[] 1537 4 #[] #[])
  fields := #[]
  methods := #[]
  instanceTypes := #[]
  staticTypes := #[]
  resolved := Array.replicate 8 none
  statics := none }

/-- the primitive boolean -/
def k5 : Class := { plain "boolean" none with kind := .primitive 'Z', accessFlags := 0x411 }
/-- [Z -/
def k6 : Class := { plain "[Z" (some 0) with kind := .array 5 .boolean, interfaces := #[3, 4], accessFlags := 1041 }

/-- the primitive byte -/
def k7 : Class := { plain "byte" none with kind := .primitive 'B', accessFlags := 0x411 }
/-- [B -/
def k8 : Class := { plain "[B" (some 0) with kind := .array 7 .byte, interfaces := #[3, 4], accessFlags := 1041 }

/-- the primitive int -/
def k9 : Class := { plain "int" none with kind := .primitive 'I', accessFlags := 0x411 }
/-- [I -/
def k10 : Class := { plain "[I" (some 0) with kind := .array 9 .int, interfaces := #[3, 4], accessFlags := 1041 }

def heap : Heap := #[]
def classes : Array Class := #[k0, k1, k2, k3, k4, k5, k6, k7, k8, k9, k10]
def interned : List (Array UInt16 × Addr) := []
def slotsUsed : Nat := 0
def theMethod : MethodId := ⟨1, 1⟩
def args0 : Array Value := #[.int 4, .int 24, .int 20, .int 3, .int 5]
def aboutOver (below : List Frame) : State where
  vm := { classes := classes, interned := interned.toArray }
  heap := heap
  slotsUsed := slotsUsed
  threads := #[{ frames := .invoking theMethod args0 :: below }]
def below0 : List Frame := [.native { method := ⟨0, 0⟩, args := #[] }]
def about1 : State := aboutOver below0
def p0 : Program := .bare "" "" ""
def e0 : Env := launch0.env 0 0 0
theorem w_frames : about1.frames = Frame.invoking theMethod args0 :: below0 := rfl
set_option maxRecDepth 65536 in
theorem w_args : argsFit about1.vm theMethod args0 = true := by decide +kernel
set_option maxRecDepth 65536 in
theorem w_heap : heapFits about1 = true := by decide +kernel
set_option maxRecDepth 65536 in
theorem w_runnable : about1.curStatus? = some .runnable := by decide +kernel
set_option maxRecDepth 65536 in
theorem w_alone : about1.alone = true := by decide +kernel
set_option maxRecDepth 65536 in
theorem w_named : about1.methodNamed? x = some theMethod := by decide +kernel
set_option maxRecDepth 65536 in
theorem w_hears : about1.hears theMethod below0 = true := by decide +kernel
set_option maxRecDepth 65536 in
theorem w_ripe : about1.ripe theMethod args0 below0 = true := by decide +kernel
theorem w_running : about1.status = .running := rfl
set_option maxRecDepth 65536 in
theorem w_room : about1.hasRoom e0.platform room_1 = true :=
  launch0.hasRoom_least _ room_1 (by decide +kernel) (by decide +kernel) (by decide +kernel) (by decide +kernel) (by decide +kernel) (by decide +kernel)
theorem allAtoms_all (ts : List Jvm.Cond) (a : Array Jvm.Value) (st : Jvm.State) : (allAtoms ts).before a st = ts.all (fun c => c.before a st) := by
  induction ts with
  | nil => rfl
  | cons c t ih =>
    show (Jvm.Cond.and c (allAtoms t)).before a st = _
    rw [Jvm.Cond.before_and, ih, List.all_cons]
def words1 : List Jvm.Cond := Jvm.Cond.code x code maxLocals ret :: tables_1
/-- a 'code' word, met by the world's own term for the bytes: nothing is compared byte by byte -/
theorem code_word {y : MethodName} {bytes : ByteArray} {mx : Nat} {rt : Option FieldType} {a : Array Value} {s : State} {m : MethodId} {meth : Method} {c : Code} (h1 : s.methodNamed? y = some m) (h2 : s.vm.method? m = some meth) (h3 : meth.code = some c) (h4 : c.code = bytes)
    (h5 : (c.maxLocals == mx && c.exceptionTable.isEmpty && decide (c.maxStack ≤ mostOperands) && decide (meth.sig.returnType = rt) && !meth.locks && decide (parseMethodDescriptor y.desc = some meth.sig)) = true) : (Jvm.Cond.code y bytes mx rt).before a s = true := by
  simp only [Bool.and_eq_true, beq_iff_eq, Bool.not_eq_true', decide_eq_true_eq] at h5
  obtain ⟨⟨⟨⟨⟨g1, g2⟩, g3⟩, g4⟩, g5⟩, g6⟩ := h5
  simp [Cond.before, Cond.holds, Cond.value, h1, h2, h3, h4, g1, g2, g3, g4, g5, g6]
def isCode : Jvm.Cond → Bool
  | .code _ _ _ _ => true
  | _ => false
theorem all_split {L : List Jvm.Cond} {P : Jvm.Cond → Bool} (h1 : L.all (fun c => isCode c || P c) = true) (h2 : ∀ c ∈ L.filter isCode, P c = true) : L.all P = true := by
  refine List.all_eq_true.mpr fun c hc => ?_
  have h := List.all_eq_true.mp h1 c hc
  rcases Bool.eq_false_or_eq_true (isCode c) with hi | hi
  · exact h2 c (List.mem_filter.mpr ⟨hc, hi⟩)
  · simpa [hi] using h
set_option maxRecDepth 65536 in
theorem w_c0 : (Jvm.Cond.code x code maxLocals ret).before args0 about1 = true := code_word (m := ⟨1, 1⟩) (meth := k1m1) (c := k1c1) (by decide +kernel) rfl rfl rfl (by decide +kernel)
set_option maxRecDepth 65536 in
theorem w_c1 : (Jvm.Cond.code ({ cls := "ResponseTimeGate", name := "<init>", desc := "(I)V" } : Jvm.MethodName) prog_1_method_1_code (4 : Nat) (Option.none : Option Jvm.ClassFile.FieldType)).before args0 about1 = true := code_word (m := ⟨2, 0⟩) (meth := k2m0) (c := k2c0) (by decide +kernel) rfl rfl rfl (by decide +kernel)
set_option maxRecDepth 65536 in
theorem w_c2 : (Jvm.Cond.code ({ cls := "java/lang/Object", name := "<init>", desc := "()V" } : Jvm.MethodName) object_method_1_code (1 : Nat) (Option.none : Option Jvm.ClassFile.FieldType)).before args0 about1 = true := code_word (m := ⟨0, 0⟩) (meth := k0m0) (c := k0c0) (by decide +kernel) rfl rfl rfl (by decide +kernel)
set_option maxRecDepth 65536 in
theorem w_c3 : (Jvm.Cond.code ({ cls := "ResponseTimeGate", name := "resetSim", desc := "()V" } : Jvm.MethodName) prog_1_method_23_code (2 : Nat) (Option.none : Option Jvm.ClassFile.FieldType)).before args0 about1 = true := code_word (m := ⟨2, 19⟩) (meth := k2m19) (c := k2c19) (by decide +kernel) rfl rfl rfl (by decide +kernel)
set_option maxRecDepth 65536 in
theorem w_c4 : (Jvm.Cond.code ({ cls := "ResponseTimeGate", name := "beginTask", desc := "(IIII)I" } : Jvm.MethodName) prog_1_method_2_code (6 : Nat) (Option.some Jvm.ClassFile.FieldType.int)).before args0 about1 = true := code_word (m := ⟨2, 1⟩) (meth := k2m1) (c := k2c1) (by decide +kernel) rfl rfl rfl (by decide +kernel)
set_option maxRecDepth 65536 in
theorem w_c5 : (Jvm.Cond.code ({ cls := "ResponseTimeGate", name := "commitTask", desc := "()I" } : Jvm.MethodName) prog_1_method_6_code (4 : Nat) (Option.some Jvm.ClassFile.FieldType.int)).before args0 about1 = true := code_word (m := ⟨2, 3⟩) (meth := k2m3) (c := k2c3) (by decide +kernel) rfl rfl rfl (by decide +kernel)
set_option maxRecDepth 65536 in
theorem w_c6 : (Jvm.Cond.code ({ cls := "ResponseTimeGate", name := "taskCount", desc := "()I" } : Jvm.MethodName) prog_1_method_17_code (1 : Nat) (Option.some Jvm.ClassFile.FieldType.int)).before args0 about1 = true := code_word (m := ⟨2, 14⟩) (meth := k2m14) (c := k2c14) (by decide +kernel) rfl rfl rfl (by decide +kernel)
set_option maxRecDepth 65536 in
theorem w_c7 : (Jvm.Cond.code ({ cls := "ResponseTimeGate", name := "bound", desc := "(I)I" } : Jvm.MethodName) prog_1_method_18_code (2 : Nat) (Option.some Jvm.ClassFile.FieldType.int)).before args0 about1 = true := code_word (m := ⟨2, 15⟩) (meth := k2m15) (c := k2c15) (by decide +kernel) rfl rfl rfl (by decide +kernel)
set_option maxRecDepth 65536 in
theorem w_c8 : (Jvm.Cond.code ({ cls := "ResponseTimeGate", name := "admitted", desc := "(I)Z" } : Jvm.MethodName) prog_1_method_16_code (2 : Nat) (Option.some Jvm.ClassFile.FieldType.boolean)).before args0 about1 = true := code_word (m := ⟨2, 13⟩) (meth := k2m13) (c := k2c13) (by decide +kernel) rfl rfl rfl (by decide +kernel)
set_option maxRecDepth 65536 in
theorem w_c9 : (Jvm.Cond.code ({ cls := "ResponseTimeGate", name := "blocking", desc := "(I)I" } : Jvm.MethodName) prog_1_method_19_code (2 : Nat) (Option.some Jvm.ClassFile.FieldType.int)).before args0 about1 = true := code_word (m := ⟨2, 16⟩) (meth := k2m16) (c := k2c16) (by decide +kernel) rfl rfl rfl (by decide +kernel)
set_option maxRecDepth 65536 in
theorem w_c10 : (Jvm.Cond.code ({ cls := "ResponseTimeGate", name := "hyperperiod", desc := "()I" } : Jvm.MethodName) prog_1_method_21_code (1 : Nat) (Option.some Jvm.ClassFile.FieldType.int)).before args0 about1 = true := code_word (m := ⟨2, 17⟩) (meth := k2m17) (c := k2c17) (by decide +kernel) rfl rfl rfl (by decide +kernel)
set_option maxRecDepth 65536 in
theorem w_c11 : (Jvm.Cond.code ({ cls := "ResponseTimeGate", name := "failedTask", desc := "()I" } : Jvm.MethodName) prog_1_method_22_code (1 : Nat) (Option.some Jvm.ClassFile.FieldType.int)).before args0 about1 = true := code_word (m := ⟨2, 18⟩) (meth := k2m18) (c := k2c18) (by decide +kernel) rfl rfl rfl (by decide +kernel)
set_option maxRecDepth 65536 in
theorem w_c12 : (Jvm.Cond.code ({ cls := "ResponseTimeGate", name := "priorityTaken", desc := "(I)Z" } : Jvm.MethodName) prog_1_method_3_code (3 : Nat) (Option.some Jvm.ClassFile.FieldType.boolean)).before args0 about1 = true := code_word (m := ⟨2, 2⟩) (meth := k2m2) (c := k2c2) (by decide +kernel) rfl rfl rfl (by decide +kernel)
set_option maxRecDepth 65536 in
theorem w_c13 : (Jvm.Cond.code ({ cls := "ResponseTimeGate", name := "lcmWith", desc := "(II)I" } : Jvm.MethodName) prog_1_method_10_code (4 : Nat) (Option.some Jvm.ClassFile.FieldType.int)).before args0 about1 = true := code_word (m := ⟨2, 7⟩) (meth := k2m7) (c := k2c7) (by decide +kernel) rfl rfl rfl (by decide +kernel)
set_option maxRecDepth 65536 in
theorem w_c14 : (Jvm.Cond.code ({ cls := "ResponseTimeGate", name := "gcd", desc := "(II)I" } : Jvm.MethodName) prog_1_method_9_code (7 : Nat) (Option.some Jvm.ClassFile.FieldType.int)).before args0 about1 = true := code_word (m := ⟨2, 6⟩) (meth := k2m6) (c := k2c6) (by decide +kernel) rfl rfl rfl (by decide +kernel)
set_option maxRecDepth 65536 in
theorem w_c15 : (Jvm.Cond.code ({ cls := "ResponseTimeGate", name := "placeStaged", desc := "(I)V" } : Jvm.MethodName) prog_1_method_7_code (3 : Nat) (Option.none : Option Jvm.ClassFile.FieldType)).before args0 about1 = true := code_word (m := ⟨2, 4⟩) (meth := k2m4) (c := k2c4) (by decide +kernel) rfl rfl rfl (by decide +kernel)
set_option maxRecDepth 65536 in
theorem w_c16 : (Jvm.Cond.code ({ cls := "ResponseTimeGate", name := "analyze", desc := "(I)I" } : Jvm.MethodName) prog_1_method_11_code (5 : Nat) (Option.some Jvm.ClassFile.FieldType.int)).before args0 about1 = true := code_word (m := ⟨2, 8⟩) (meth := k2m8) (c := k2c8) (by decide +kernel) rfl rfl rfl (by decide +kernel)
set_option maxRecDepth 65536 in
theorem w_c17 : (Jvm.Cond.code ({ cls := "ResponseTimeGate", name := "computeCeilings", desc := "(I)V" } : Jvm.MethodName) prog_1_method_12_code (5 : Nat) (Option.none : Option Jvm.ClassFile.FieldType)).before args0 about1 = true := code_word (m := ⟨2, 9⟩) (meth := k2m9) (c := k2c9) (by decide +kernel) rfl rfl rfl (by decide +kernel)
set_option maxRecDepth 65536 in
theorem w_c18 : (Jvm.Cond.code ({ cls := "ResponseTimeGate", name := "blockingOf", desc := "(II)I" } : Jvm.MethodName) prog_1_method_13_code (8 : Nat) (Option.some Jvm.ClassFile.FieldType.int)).before args0 about1 = true := code_word (m := ⟨2, 10⟩) (meth := k2m10) (c := k2c10) (by decide +kernel) rfl rfl rfl (by decide +kernel)
set_option maxRecDepth 65536 in
theorem w_c19 : (Jvm.Cond.code ({ cls := "ResponseTimeGate", name := "responseOf", desc := "(III)I" } : Jvm.MethodName) prog_1_method_14_code (8 : Nat) (Option.some Jvm.ClassFile.FieldType.int)).before args0 about1 = true := code_word (m := ⟨2, 11⟩) (meth := k2m11) (c := k2c11) (by decide +kernel) rfl rfl rfl (by decide +kernel)
set_option maxRecDepth 65536 in
theorem w_c20 : (Jvm.Cond.code ({ cls := "ResponseTimeGate", name := "interference", desc := "(III)I" } : Jvm.MethodName) prog_1_method_15_code (8 : Nat) (Option.some Jvm.ClassFile.FieldType.int)).before args0 about1 = true := code_word (m := ⟨2, 12⟩) (meth := k2m12) (c := k2c12) (by decide +kernel) rfl rfl rfl (by decide +kernel)
set_option maxRecDepth 65536 in
theorem w_c21 : (Jvm.Cond.code ({ cls := "ResponseTimeGate", name := "adoptResults", desc := "(I)V" } : Jvm.MethodName) prog_1_method_8_code (3 : Nat) (Option.none : Option Jvm.ClassFile.FieldType)).before args0 about1 = true := code_word (m := ⟨2, 5⟩) (meth := k2m5) (c := k2c5) (by decide +kernel) rfl rfl rfl (by decide +kernel)
def codes1 : List Jvm.Cond := [Jvm.Cond.code x code maxLocals ret, Jvm.Cond.code ({ cls := "ResponseTimeGate", name := "<init>", desc := "(I)V" } : Jvm.MethodName) prog_1_method_1_code (4 : Nat) (Option.none : Option Jvm.ClassFile.FieldType), Jvm.Cond.code ({ cls := "java/lang/Object", name := "<init>", desc := "()V" } : Jvm.MethodName) object_method_1_code (1 : Nat) (Option.none : Option Jvm.ClassFile.FieldType), Jvm.Cond.code ({ cls := "ResponseTimeGate", name := "resetSim", desc := "()V" } : Jvm.MethodName) prog_1_method_23_code (2 : Nat) (Option.none : Option Jvm.ClassFile.FieldType), Jvm.Cond.code ({ cls := "ResponseTimeGate", name := "beginTask", desc := "(IIII)I" } : Jvm.MethodName) prog_1_method_2_code (6 : Nat) (Option.some Jvm.ClassFile.FieldType.int), Jvm.Cond.code ({ cls := "ResponseTimeGate", name := "commitTask", desc := "()I" } : Jvm.MethodName) prog_1_method_6_code (4 : Nat) (Option.some Jvm.ClassFile.FieldType.int), Jvm.Cond.code ({ cls := "ResponseTimeGate", name := "taskCount", desc := "()I" } : Jvm.MethodName) prog_1_method_17_code (1 : Nat) (Option.some Jvm.ClassFile.FieldType.int), Jvm.Cond.code ({ cls := "ResponseTimeGate", name := "bound", desc := "(I)I" } : Jvm.MethodName) prog_1_method_18_code (2 : Nat) (Option.some Jvm.ClassFile.FieldType.int), Jvm.Cond.code ({ cls := "ResponseTimeGate", name := "admitted", desc := "(I)Z" } : Jvm.MethodName) prog_1_method_16_code (2 : Nat) (Option.some Jvm.ClassFile.FieldType.boolean), Jvm.Cond.code ({ cls := "ResponseTimeGate", name := "blocking", desc := "(I)I" } : Jvm.MethodName) prog_1_method_19_code (2 : Nat) (Option.some Jvm.ClassFile.FieldType.int), Jvm.Cond.code ({ cls := "ResponseTimeGate", name := "hyperperiod", desc := "()I" } : Jvm.MethodName) prog_1_method_21_code (1 : Nat) (Option.some Jvm.ClassFile.FieldType.int), Jvm.Cond.code ({ cls := "ResponseTimeGate", name := "failedTask", desc := "()I" } : Jvm.MethodName) prog_1_method_22_code (1 : Nat) (Option.some Jvm.ClassFile.FieldType.int), Jvm.Cond.code ({ cls := "ResponseTimeGate", name := "priorityTaken", desc := "(I)Z" } : Jvm.MethodName) prog_1_method_3_code (3 : Nat) (Option.some Jvm.ClassFile.FieldType.boolean), Jvm.Cond.code ({ cls := "ResponseTimeGate", name := "lcmWith", desc := "(II)I" } : Jvm.MethodName) prog_1_method_10_code (4 : Nat) (Option.some Jvm.ClassFile.FieldType.int), Jvm.Cond.code ({ cls := "ResponseTimeGate", name := "gcd", desc := "(II)I" } : Jvm.MethodName) prog_1_method_9_code (7 : Nat) (Option.some Jvm.ClassFile.FieldType.int), Jvm.Cond.code ({ cls := "ResponseTimeGate", name := "placeStaged", desc := "(I)V" } : Jvm.MethodName) prog_1_method_7_code (3 : Nat) (Option.none : Option Jvm.ClassFile.FieldType), Jvm.Cond.code ({ cls := "ResponseTimeGate", name := "analyze", desc := "(I)I" } : Jvm.MethodName) prog_1_method_11_code (5 : Nat) (Option.some Jvm.ClassFile.FieldType.int), Jvm.Cond.code ({ cls := "ResponseTimeGate", name := "computeCeilings", desc := "(I)V" } : Jvm.MethodName) prog_1_method_12_code (5 : Nat) (Option.none : Option Jvm.ClassFile.FieldType), Jvm.Cond.code ({ cls := "ResponseTimeGate", name := "blockingOf", desc := "(II)I" } : Jvm.MethodName) prog_1_method_13_code (8 : Nat) (Option.some Jvm.ClassFile.FieldType.int), Jvm.Cond.code ({ cls := "ResponseTimeGate", name := "responseOf", desc := "(III)I" } : Jvm.MethodName) prog_1_method_14_code (8 : Nat) (Option.some Jvm.ClassFile.FieldType.int), Jvm.Cond.code ({ cls := "ResponseTimeGate", name := "interference", desc := "(III)I" } : Jvm.MethodName) prog_1_method_15_code (8 : Nat) (Option.some Jvm.ClassFile.FieldType.int), Jvm.Cond.code ({ cls := "ResponseTimeGate", name := "adoptResults", desc := "(I)V" } : Jvm.MethodName) prog_1_method_8_code (3 : Nat) (Option.none : Option Jvm.ClassFile.FieldType)]
set_option maxRecDepth 65536 in
theorem codes_eq : words1.filter isCode = codes1 := rfl
theorem w_codes : ∀ c ∈ words1.filter isCode, c.before args0 about1 = true := by
  rw [codes_eq]
  intro c hc
  simp only [codes1, List.mem_cons, List.not_mem_nil, or_false] at hc
  rcases hc with rfl | rfl | rfl | rfl | rfl | rfl | rfl | rfl | rfl | rfl | rfl | rfl | rfl | rfl | rfl | rfl | rfl | rfl | rfl | rfl | rfl | rfl
  · exact w_c0
  · exact w_c1
  · exact w_c2
  · exact w_c3
  · exact w_c4
  · exact w_c5
  · exact w_c6
  · exact w_c7
  · exact w_c8
  · exact w_c9
  · exact w_c10
  · exact w_c11
  · exact w_c12
  · exact w_c13
  · exact w_c14
  · exact w_c15
  · exact w_c16
  · exact w_c17
  · exact w_c18
  · exact w_c19
  · exact w_c20
  · exact w_c21
set_option maxRecDepth 65536 in
theorem w_t1 : (words1.take 24).all (fun c => isCode c || c.before args0 about1) = true := by decide +kernel
set_option maxRecDepth 65536 in
theorem w_t2 : ((words1.drop 24).take 24).all (fun c => isCode c || c.before args0 about1) = true := by decide +kernel
set_option maxRecDepth 65536 in
theorem w_t3 : (((words1.drop 24).drop 24).take 24).all (fun c => isCode c || c.before args0 about1) = true := by decide +kernel
set_option maxRecDepth 65536 in
theorem w_t4 : ((((words1.drop 24).drop 24).drop 24).take 24).all (fun c => isCode c || c.before args0 about1) = true := by decide +kernel
set_option maxRecDepth 65536 in
theorem w_t5 : (((((words1.drop 24).drop 24).drop 24).drop 24).take 24).all (fun c => isCode c || c.before args0 about1) = true := by decide +kernel
set_option maxRecDepth 65536 in
theorem w_t6 : ((((((words1.drop 24).drop 24).drop 24).drop 24).drop 24).take 24).all (fun c => isCode c || c.before args0 about1) = true := by decide +kernel
set_option maxRecDepth 65536 in
theorem w_t7 : ((((((words1.drop 24).drop 24).drop 24).drop 24).drop 24).drop 24).all (fun c => isCode c || c.before args0 about1) = true := by decide +kernel
theorem w_tables : (allAtoms (Jvm.Cond.code x code maxLocals ret :: tables_1)).before args0 about1 = true := by
  rw [allAtoms_all]
  show words1.all (fun c => c.before args0 about1) = true
  refine all_split ?_ w_codes
  rw [← List.take_append_drop 24 words1, List.all_append, w_t1, ← List.take_append_drop 24 (words1.drop 24), List.all_append, w_t2, ← List.take_append_drop 24 ((words1.drop 24).drop 24), List.all_append, w_t3, ← List.take_append_drop 24 (((words1.drop 24).drop 24).drop 24), List.all_append, w_t4, ← List.take_append_drop 24 ((((words1.drop 24).drop 24).drop 24).drop 24), List.all_append, w_t5, ← List.take_append_drop 24 (((((words1.drop 24).drop 24).drop 24).drop 24).drop 24), List.all_append, w_t6, w_t7]
  rfl
set_option maxRecDepth 65536 in
theorem w_case : (Jvm.Cond.and given_1 narrow_1).before args0 about1 = true := by decide +kernel
theorem w_applies : (headSpec (Jvm.Cond.code x code maxLocals ret :: tables_1) room_1).applies x e0.platform about1 = true :=
  (Spec.applies_iff w_frames).mpr ⟨w_running, w_runnable, w_alone, w_named, w_hears, w_ripe, w_room, w_tables⟩
theorem atStart : AtStart classFile x code maxLocals ret World_1 tables_1 room_1 Calls_1 rest_1 Pre_1 launch0 p0 e0 about1 theMethod args0 below0 :=
  ⟨lists_1, trivial, launch0.admits_env _ _ _, launch0.least_env, fairChoices_fair.cas, fairChoices_fair.clock, w_frames, w_args, w_heap, w_applies, trivial, trivial, w_case⟩
end start1
theorem witness_1 : WitnessClaimed_1 := ⟨start1.p0, start1.e0, start1.about1, start1.theMethod, start1.args0, start1.below0, start1.atStart⟩
end Jvm.Pilot.@@N@@
