import JvmDerived
import JvmDerived.Pilot.@@N@@Statement
import JvmDerived.Pilot.@@N@@Code
set_option linter.unusedVariables false
set_option linter.unusedSimpArgs false
namespace Jvm.Own
open Sem ClassFile Op Lib Jvm.Stand Jvm.Free Jvm.LawKit Jvm.RoadKit
/-! OWN 1: words of the sheet, resolved -/
abbrev AHeap := List (FieldType × List Value)
abbrev Ws := List Jvm.Cond
def rFld (ws : Ws) (own : String) (i : Nat) : Option (String × String × String) :=
  ws.findSome? fun d => match d with
    | .fieldLink o j C n t => if o = own ∧ j = i then some (C, n, t) else none
    | _ => none
def rCls (ws : Ws) (own : String) (i : Nat) : Option String :=
  ws.findSome? fun d => match d with
    | .classLink o j C => if o = own ∧ j = i then some C else none
    | _ => none
def rMth (ws : Ws) (own : String) (i : Nat) : Option MethodName :=
  ws.findSome? fun d => match d with
    | .methodLink o j y => if o = own ∧ j = i then some y else none
    | _ => none
def rCon (ws : Ws) (own : String) (i : Nat) : Option Int32 :=
  ws.findSome? fun d => match d with
    | .constant o j v => if o = own ∧ j = i then some v else none
    | _ => none
def rConL (ws : Ws) (own : String) (i : Nat) : Option Int64 :=
  ws.findSome? fun d => match d with
    | .constantLong o j v => if o = own ∧ j = i then some v else none
    | _ => none
def rInst (ws : Ws) (C : String) : Option Nat :=
  ws.findSome? fun d => match d with
    | .instantiable c n => if c = C then some n else none
    | _ => none
def rCode (ws : Ws) (y : MethodName) : Option (ByteArray × Nat × Option FieldType) :=
  ws.findSome? fun d => match d with
    | .code z b m r => if z = y then some (b, m, r) else none
    | _ => none
def hasInit (ws : Ws) (C : String) : Bool := ws.any fun d => match d with | .initialized c => c == C | _ => false
def hasArr (ws : Ws) (t : FieldType) : Bool := ws.any fun d => match d with | .arrayClass c => decide (c = t) | _ => false
def hasStat (ws : Ws) (y : MethodName) : Bool := ws.any fun d => match d with | .static z => decide (z = y) | _ => false
def hasIM (ws : Ws) (y : MethodName) : Bool := ws.any fun d => match d with | .instanceMethod z => decide (z = y) | _ => false
def hasPriv (ws : Ws) (y : MethodName) : Bool := ws.any fun d => match d with | .privateMethod z => decide (z = y) | _ => false
def hasDecl (ws : Ws) (y : MethodName) : Bool := ws.any fun d => match d with | .declares z => decide (z = y) | _ => false
def hasSel (ws : Ws) (y : MethodName) : Bool := ws.any fun d => match d with | .selects c z z' => decide (c = y.cls ∧ z = y ∧ z' = y) | _ => false
def hasLays (ws : Ws) (C n t : String) : Bool := ws.any fun d => match d with | .lays c o n' t' => decide (c = C ∧ o = C ∧ n' = n ∧ t' = t) | _ => false
def hasLaysF (ws : Ws) (C n t : String) : Bool := ws.any fun d => match d with | .laysFinal c o n' t' => decide (c = C ∧ o = C ∧ n' = n ∧ t' = t) | _ => false
def layE (C : String) : Jvm.Cond → Option (String × String)
  | .lays c o n t => if c = C ∧ o = C ∧ (parseFieldDescriptor t).isSome = true then some (n, t) else none
  | .laysFinal c o n t => if c = C ∧ o = C ∧ (parseFieldDescriptor t).isSome = true then some (n, t) else none
  | _ => none
def olay (ws : Ws) (C : String) : List (String × String) := ws.filterMap (layE C)
def idx (x : String × String) : List (String × String) → Option Nat
  | [] => none
  | y :: r => if y = x then some 0 else (idx x r).map (· + 1)
def fidx (ws : Ws) (C n t : String) : Option Nat := idx (n, t) (olay ws C)
def gfR (ws : Ws) (own : String) (i : Nat) : Option (String × Nat) :=
  match rFld ws own i with
  | some (C, n, t) => (fidx ws C n t).map fun j => (C, j)
  | none => none
def pfR (ws : Ws) (own mn : String) (i : Nat) : Option (String × Nat × FieldType) :=
  match rFld ws own i with
  | some (C, n, t) =>
    match fidx ws C n t, parseFieldDescriptor t with
    | some j, some ty => if (hasLays ws C n t || (hasLaysF ws C n t && own == C && mn == "<init>")) && (rInst ws C).isSome && (olay ws C).all (fun q => q.1 != n || q.2 == t) then some (C, j, ty) else none
    | _, _ => none
  | none => none
section Res
variable {ws : Ws} {own C n t : String} {i : Nat} {y : MethodName}
theorem rFld_mem (h : rFld ws own i = some (C, n, t)) : Jvm.Cond.fieldLink own i C n t ∈ ws := by
  obtain ⟨d, hd, e⟩ := List.exists_of_findSome?_eq_some h
  split at e
  · split at e
    · rename_i q; obtain ⟨rfl, rfl⟩ := q; cases e; exact hd
    · cases e
  · cases e
theorem rCls_mem (h : rCls ws own i = some C) : Jvm.Cond.classLink own i C ∈ ws := by
  obtain ⟨d, hd, e⟩ := List.exists_of_findSome?_eq_some h
  split at e
  · split at e
    · rename_i q; obtain ⟨rfl, rfl⟩ := q; cases e; exact hd
    · cases e
  · cases e
theorem rMth_mem (h : rMth ws own i = some y) : Jvm.Cond.methodLink own i y ∈ ws := by
  obtain ⟨d, hd, e⟩ := List.exists_of_findSome?_eq_some h
  split at e
  · split at e
    · rename_i q; obtain ⟨rfl, rfl⟩ := q; cases e; exact hd
    · cases e
  · cases e
theorem rCon_mem {v : Int32} (h : rCon ws own i = some v) : Jvm.Cond.constant own i v ∈ ws := by
  obtain ⟨d, hd, e⟩ := List.exists_of_findSome?_eq_some h
  split at e
  · split at e
    · rename_i q; obtain ⟨rfl, rfl⟩ := q; cases e; exact hd
    · cases e
  · cases e
theorem rConL_mem {v : Int64} (h : rConL ws own i = some v) : Jvm.Cond.constantLong own i v ∈ ws := by
  obtain ⟨d, hd, e⟩ := List.exists_of_findSome?_eq_some h
  split at e
  · split at e
    · rename_i q; obtain ⟨rfl, rfl⟩ := q; cases e; exact hd
    · cases e
  · cases e
theorem rInst_mem {k : Nat} (h : rInst ws C = some k) : Jvm.Cond.instantiable C k ∈ ws := by
  obtain ⟨d, hd, e⟩ := List.exists_of_findSome?_eq_some h
  split at e
  · split at e
    · rename_i q; subst q; cases e; exact hd
    · cases e
  · cases e
theorem rCode_mem {b : ByteArray} {k : Nat} {r : Option FieldType} (h : rCode ws y = some (b, k, r)) : Jvm.Cond.code y b k r ∈ ws := by
  obtain ⟨d, hd, e⟩ := List.exists_of_findSome?_eq_some h
  split at e
  · split at e
    · rename_i q; subst q; cases e; exact hd
    · cases e
  · cases e
theorem hasInit_mem (h : hasInit ws C = true) : Jvm.Cond.initialized C ∈ ws := by
  obtain ⟨d, hd, e⟩ := List.any_eq_true.mp h
  split at e
  · rw [beq_iff_eq] at e; subst e; exact hd
  · cases e
theorem hasArr_mem {ty : FieldType} (h : hasArr ws ty = true) : Jvm.Cond.arrayClass ty ∈ ws := by
  obtain ⟨d, hd, e⟩ := List.any_eq_true.mp h
  split at e
  · have e := of_decide_eq_true e; subst e; exact hd
  · cases e
theorem hasStat_mem (h : hasStat ws y = true) : Jvm.Cond.static y ∈ ws := by
  obtain ⟨d, hd, e⟩ := List.any_eq_true.mp h
  split at e
  · have e := of_decide_eq_true e; subst e; exact hd
  · cases e
theorem hasIM_mem (h : hasIM ws y = true) : Jvm.Cond.instanceMethod y ∈ ws := by
  obtain ⟨d, hd, e⟩ := List.any_eq_true.mp h
  split at e
  · have e := of_decide_eq_true e; subst e; exact hd
  · cases e
theorem hasPriv_mem (h : hasPriv ws y = true) : Jvm.Cond.privateMethod y ∈ ws := by
  obtain ⟨d, hd, e⟩ := List.any_eq_true.mp h
  split at e
  · have e := of_decide_eq_true e; subst e; exact hd
  · cases e
theorem hasDecl_mem (h : hasDecl ws y = true) : Jvm.Cond.declares y ∈ ws := by
  obtain ⟨d, hd, e⟩ := List.any_eq_true.mp h
  split at e
  · have e := of_decide_eq_true e; subst e; exact hd
  · cases e
theorem hasSel_mem (h : hasSel ws y = true) : Jvm.Cond.selects y.cls y y ∈ ws := by
  obtain ⟨d, hd, e⟩ := List.any_eq_true.mp h
  split at e
  · obtain ⟨rfl, rfl, rfl⟩ := of_decide_eq_true e; exact hd
  · cases e
theorem hasLays_mem (h : hasLays ws C n t = true) : Jvm.Cond.lays C C n t ∈ ws := by
  obtain ⟨d, hd, e⟩ := List.any_eq_true.mp h
  split at e
  · obtain ⟨rfl, rfl, rfl, rfl⟩ := of_decide_eq_true e; exact hd
  · cases e
theorem hasLaysF_mem (h : hasLaysF ws C n t = true) : Jvm.Cond.laysFinal C C n t ∈ ws := by
  obtain ⟨d, hd, e⟩ := List.any_eq_true.mp h
  split at e
  · obtain ⟨rfl, rfl, rfl, rfl⟩ := of_decide_eq_true e; exact hd
  · cases e
theorem lay_mem (h : (n, t) ∈ olay ws C) : (Jvm.Cond.lays C C n t ∈ ws ∨ Jvm.Cond.laysFinal C C n t ∈ ws) ∧ ∃ ty, parseFieldDescriptor t = some ty := by
  obtain ⟨d, hd, e⟩ := List.mem_filterMap.mp h
  unfold layE at e
  split at e
  · split at e
    · rename_i q; obtain ⟨rfl, rfl, q⟩ := q; cases e; exact ⟨Or.inl hd, Option.isSome_iff_exists.mp q⟩
    · cases e
  · split at e
    · rename_i q; obtain ⟨rfl, rfl, q⟩ := q; cases e; exact ⟨Or.inr hd, Option.isSome_iff_exists.mp q⟩
    · cases e
  · cases e
theorem idx_get {x : String × String} : ∀ {l : List (String × String)} {j : Nat}, idx x l = some j → l[j]? = some x
  | [], _, h => by cases h
  | y :: r, j, h => by
    unfold idx at h
    split at h
    · rename_i q; cases h; simp [q]
    · obtain ⟨j', h', rfl⟩ := Option.map_eq_some_iff.mp h
      simpa using idx_get h'
theorem fidx_mem {j : Nat} (h : fidx ws C n t = some j) : (n, t) ∈ olay ws C := List.mem_of_getElem? (idx_get h)
theorem fidx_inj {n' t' : String} {j : Nat} (h : fidx ws C n t = some j) (h' : fidx ws C n' t' = some j) : n = n' ∧ t = t' := by
  have := (idx_get h).symm.trans (idx_get h')
  simpa using this
theorem gfR_some {j : Nat} (h : gfR ws own i = some (C, j)) : ∃ n t, rFld ws own i = some (C, n, t) ∧ fidx ws C n t = some j := by
  unfold gfR at h
  split at h
  · rename_i C' n' t' q
    obtain ⟨j', h', e⟩ := Option.map_eq_some_iff.mp h
    cases e; exact ⟨_, _, q, h'⟩
  · cases h
theorem pfR_some {mn : String} {j : Nat} {ty : FieldType} (h : pfR ws own mn i = some (C, j, ty)) : ∃ n t, rFld ws own i = some (C, n, t) ∧ fidx ws C n t = some j ∧ parseFieldDescriptor t = some ty ∧
    (Jvm.Cond.lays C C n t ∈ ws ∨ (Jvm.Cond.laysFinal C C n t ∈ ws ∧ own = C ∧ mn = "<init>")) ∧ (∃ k, Jvm.Cond.instantiable C k ∈ ws) ∧ ∀ n' t', (n', t') ∈ olay ws C → n' ≠ n ∨ t' = t := by
  unfold pfR at h
  split at h
  · rename_i C' n' t' q
    split at h
    · rename_i j' ty' q1 q2
      split at h
      · rename_i g
        cases h
        simp only [Bool.and_eq_true, Bool.or_eq_true, beq_iff_eq, List.all_eq_true, bne_iff_ne, ne_eq] at g
        obtain ⟨⟨g1, g2⟩, g3⟩ := g
        obtain ⟨k, hk⟩ := Option.isSome_iff_exists.mp g2
        refine ⟨n', t', q, q1, q2, ?_, ⟨k, rInst_mem hk⟩, fun a b hab => g3 (a, b) hab⟩
        rcases g1 with g1 | ⟨⟨g1, g4⟩, g5⟩
        · exact Or.inl (hasLays_mem g1)
        · exact Or.inr ⟨hasLaysF_mem g1, g4, g5⟩
      · cases h
    · cases h
  · cases h
end Res
end Jvm.Own
namespace Jvm.Own
open Sem ClassFile Op Lib Jvm.Stand Jvm.Free Jvm.LawKit Jvm.RoadKit
/-! OWN 2: the abstract machine -/
abbrev XR := Option (Nat × List Slot × List Value)
def chk {α : Type} (a b : Nat) (x : Option α) : Option α := if a = b then x else none
def isI : Value → Bool | .int _ => true | _ => false
def isL : Value → Bool | .long _ => true | _ => false
def stl (ls : List Slot) (i : Nat) (v : Value) : Option (List Slot) := (storeLocals ls.toArray i v).map Array.toList
def ldV (p : Value → Bool) (nx i : Nat) (ls : List Slot) (st : List Value) : XR :=
  match ls[i]? with
  | some (.val v) => if p v = true then some (nx, ls, v :: st) else none
  | _ => none
def stV (p : Value → Bool) (nx i : Nat) (ls : List Slot) : List Value → XR
  | v :: r => if p v = true then (stl ls i v).map fun l' => (nx, l', r) else none
  | [] => none
def b2 (f : Int32 → Int32 → Int32) (nx : Nat) (ls : List Slot) : List Value → XR
  | .int y :: .int x :: r => some (nx, ls, .int (f x y) :: r)
  | _ => none
def d2 (f : Int32 → Int32 → Int32) (nx : Nat) (ls : List Slot) : List Value → XR
  | .int y :: .int x :: r => if y = 0 then none else some (nx, ls, .int (f x y) :: r)
  | _ => none
def u1 (f : Int32 → Int32) (nx : Nat) (ls : List Slot) : List Value → XR
  | .int x :: r => some (nx, ls, .int (f x) :: r)
  | _ => none
def l2 (f : Int64 → Int64 → Int64) (nx : Nat) (ls : List Slot) : List Value → XR
  | .long y :: .long x :: r => some (nx, ls, .long (f x y) :: r)
  | _ => none
def lsh (f : Int64 → Int32 → Int64) (nx : Nat) (ls : List Slot) : List Value → XR
  | .int y :: .long x :: r => some (nx, ls, .long (f x y) :: r)
  | _ => none
def jmp (pc : Nat) (o : Int) : Option Nat := if 0 ≤ (pc : Int) + o then some ((pc : Int) + o).toNat else none
def br (c : Bool) (pc : Nat) (o : Int) (ls : List Slot) (r : List Value) : XR :=
  if c = true then (jmp pc o).map fun q => (q, ls, r) else some (pc + 3, ls, r)
def sw (pc : Nat) (dflt low high : Int) (offs : Array Int) (ls : List Slot) : List Value → XR
  | .int i :: r => if i.toInt < low ∨ i.toInt > high then (jmp pc dflt).map fun q => (q, ls, r) else
      match offs[(i.toInt - low).toNat]? with
      | some o => (jmp pc o).map fun q => (q, ls, r)
      | none => none
  | _ => none
def xstep (ins : Instr) (len pc : Nat) (ls : List Slot) (st : List Value) : XR :=
  match ins with
  | .aload_n i => chk len 1 (ldV Value.isRef (pc + 1) i.val ls st)
  | .aload i => chk len 2 (ldV Value.isRef (pc + 2) i ls st)
  | .iload_n i => chk len 1 (ldV isI (pc + 1) i.val ls st)
  | .iload i => chk len 2 (ldV isI (pc + 2) i ls st)
  | .lload_n i => chk len 1 (ldV isL (pc + 1) i.val ls st)
  | .lload i => chk len 2 (ldV isL (pc + 2) i ls st)
  | .astore_n i => chk len 1 (stV Value.isRef (pc + 1) i.val ls st)
  | .astore i => chk len 2 (stV Value.isRef (pc + 2) i ls st)
  | .istore_n i => chk len 1 (stV isI (pc + 1) i.val ls st)
  | .istore i => chk len 2 (stV isI (pc + 2) i ls st)
  | .lstore_n i => chk len 1 (stV isL (pc + 1) i.val ls st)
  | .lstore i => chk len 2 (stV isL (pc + 2) i ls st)
  | .iconst i => chk len 1 (some (pc + 1, ls, .int (Int32.ofInt i) :: st))
  | .bipush i => chk len 2 (some (pc + 2, ls, .int (Int8.ofInt i).toInt32 :: st))
  | .sipush i => chk len 3 (some (pc + 3, ls, .int (Int16.ofInt i).toInt32 :: st))
  | .lconst i => chk len 1 (some (pc + 1, ls, .long (Int64.ofNat i) :: st))
  | .iadd => chk len 1 (b2 (fun x y => x + y) (pc + 1) ls st)
  | .isub => chk len 1 (b2 (fun x y => x - y) (pc + 1) ls st)
  | .imul => chk len 1 (b2 (fun x y => x * y) (pc + 1) ls st)
  | .iand => chk len 1 (b2 (fun x y => x &&& y) (pc + 1) ls st)
  | .ior => chk len 1 (b2 (fun x y => x ||| y) (pc + 1) ls st)
  | .ixor => chk len 1 (b2 (fun x y => x ^^^ y) (pc + 1) ls st)
  | .ishl => chk len 1 (b2 (fun x y => x <<< (y &&& 31)) (pc + 1) ls st)
  | .ishr => chk len 1 (b2 (fun x y => x >>> (y &&& 31)) (pc + 1) ls st)
  | .iushr => chk len 1 (b2 XT.ushr (pc + 1) ls st)
  | .idiv => chk len 1 (d2 (fun x y => x / y) (pc + 1) ls st)
  | .irem => chk len 1 (d2 (fun x y => x % y) (pc + 1) ls st)
  | .ineg => chk len 1 (u1 (fun x => -x) (pc + 1) ls st)
  | .i2b => chk len 1 (u1 (fun x => x.toInt8.toInt32) (pc + 1) ls st)
  | .i2c => chk len 1 (u1 (fun x => x.toUInt32.toUInt16.toUInt32.toInt32) (pc + 1) ls st)
  | .ladd => chk len 1 (l2 (fun x y => x + y) (pc + 1) ls st)
  | .lsub => chk len 1 (l2 (fun x y => x - y) (pc + 1) ls st)
  | .lmul => chk len 1 (l2 (fun x y => x * y) (pc + 1) ls st)
  | .land => chk len 1 (l2 (fun x y => x &&& y) (pc + 1) ls st)
  | .lor => chk len 1 (l2 (fun x y => x ||| y) (pc + 1) ls st)
  | .lxor => chk len 1 (l2 (fun x y => x ^^^ y) (pc + 1) ls st)
  | .lshl => chk len 1 (lsh (fun x y => x <<< (y.toInt64 &&& 63)) (pc + 1) ls st)
  | .lshr => chk len 1 (lsh (fun x y => x >>> (y.toInt64 &&& 63)) (pc + 1) ls st)
  | .lushr => chk len 1 (lsh XT.ushrL (pc + 1) ls st)
  | .lneg => chk len 1 (match st with | .long x :: r => some (pc + 1, ls, .long (-x) :: r) | _ => none)
  | .i2l => chk len 1 (match st with | .int x :: r => some (pc + 1, ls, .long x.toInt64 :: r) | _ => none)
  | .l2i => chk len 1 (match st with | .long x :: r => some (pc + 1, ls, .int x.toInt32 :: r) | _ => none)
  | .lcmp => chk len 1 (match st with | .long y :: .long x :: r => some (pc + 1, ls, .int (XT.cmpL x y) :: r) | _ => none)
  | .iinc i cst => chk len 3 (match ls[i]? with | some (.val (.int x)) => (stl ls i (.int (x + Int32.ofInt cst))).map fun l' => (pc + 3, l', st) | _ => none)
  | .dup => chk len 1 (match st with | x :: r => if x.category = 1 then some (pc + 1, ls, x :: x :: r) else none | _ => none)
  | .dup2 => chk len 1 (match st with
      | .long x :: r => some (pc + 1, ls, .long x :: .long x :: r)
      | x :: y :: r => if x.category = 1 ∧ y.category = 1 then some (pc + 1, ls, x :: y :: x :: y :: r) else none
      | _ => none)
  | .pop => chk len 1 (match st with | x :: r => if x.category = 1 then some (pc + 1, ls, r) else none | _ => none)
  | .goto o => chk len 3 ((jmp pc o).map fun q => (q, ls, st))
  | .ifCond cd o => chk len 3 (match st with | .int x :: r => br (ifCond.holds cd x) pc o ls r | _ => none)
  | .if_icmp cd o => chk len 3 (match st with | .int y :: .int x :: r => br (if_icmp.holds cd x y) pc o ls r | _ => none)
  | .tableswitch dflt low high offs => sw pc dflt low high offs ls st
  | _ => none
abbrev HR := Option (Nat × List Value × AHeap)
def putv : FieldType → Value → Option Value
  | .int, .int x => some (.int x)
  | .boolean, .int x => some (.int (nar .boolean x))
  | .byte, .int x => some (.int (nar .byte x))
  | .char, .int x => some (.int (nar .char x))
  | .short, .int x => some (.int (nar .short x))
  | .long, .long x => some (.long x)
  | .array _, .ref a => some (.ref a)
  | _, _ => none
def dflt (q : String × String) : Value := match parseFieldDescriptor q.2 with | some ty => defaultValue ty | none => .null
def hGet (ws : Ws) (own : String) (i pc : Nat) (H : AHeap) : List Value → HR
  | .ref a :: r =>
    match gfR ws own i, H[a]? with
    | some (C, j), some (.object C', vs) => if C = C' then (vs[j]?).map fun v => (pc + 3, v :: r, H) else none
    | _, _ => none
  | _ => none
def hPut (ws : Ws) (k : Nat) (own mn : String) (i pc : Nat) (H : AHeap) : List Value → HR
  | v :: .ref a :: r =>
    match pfR ws own mn i, H[a]? with
    | some (C, j, ty), some (.object C', vs) => if C = C' ∧ k ≤ a ∧ j < vs.length then (putv ty v).map fun v' => (pc + 3, r, H.set a (.object C', vs.set j v')) else none
    | _, _ => none
  | _ => none
def hNew (ws : Ws) (own : String) (i pc : Nat) (H : AHeap) (st : List Value) : HR :=
  match rCls ws own i with
  | some C => if (rInst ws C).isSome = true ∧ hasInit ws C = true then some (pc + 3, .ref H.length :: st, H ++ [(.object C, (olay ws C).map dflt)]) else none
  | none => none
def hNewA (ws : Ws) (aty : ArrayType) (pc : Nat) (H : AHeap) : List Value → HR
  | .int n :: r => if hasArr ws (newarray.typeOf aty) = true ∧ ¬ n < 0 ∧ n.toNatClampNeg * 8 ≤ 536870912 then
      some (pc + 2, .ref H.length :: r, H ++ [(.array (newarray.typeOf aty), List.replicate n.toNatClampNeg (defaultValue (newarray.typeOf aty)))]) else none
  | _ => none
def hLd (ok : FieldType → Bool) (pc : Nat) (H : AHeap) : List Value → HR
  | .int j :: .ref a :: r =>
    match H[a]? with
    | some (.array ty, vs) => if ok ty = true ∧ ¬ j < 0 then (vs[j.toNatClampNeg]?).map fun v => (pc + 1, v :: r, H) else none
    | _ => none
  | _ => none
def hSt (ok : FieldType → Bool) (k pc : Nat) (H : AHeap) : List Value → HR
  | v :: .int j :: .ref a :: r =>
    match H[a]? with
    | some (.array ty, vs) => if ok ty = true ∧ k ≤ a ∧ ¬ j < 0 ∧ j.toNatClampNeg < vs.length then (putv ty v).map fun v' => (pc + 1, r, H.set a (.array ty, vs.set j.toNatClampNeg v')) else none
    | _ => none
  | _ => none
def hLen (pc : Nat) (H : AHeap) : List Value → HR
  | .ref a :: r =>
    match H[a]? with
    | some (.array _, vs) => some (pc + 1, .int vs.length.toInt32 :: r, H)
    | _ => none
  | _ => none
def okT (t u : FieldType) : Bool := decide (u = t)
def okB (u : FieldType) : Bool := decide (u = .byte) || decide (u = .boolean)
def hstep (ws : Ws) (k : Nat) (y : MethodName) (ins : Instr) (len pc : Nat) (st : List Value) (H : AHeap) : HR :=
  match ins with
  | .getfield i => chk len 3 (hGet ws y.cls i pc H st)
  | .putfield i => chk len 3 (hPut ws k y.cls y.name i pc H st)
  | .new i => chk len 3 (hNew ws y.cls i pc H st)
  | .newarray aty => chk len 2 (hNewA ws aty pc H st)
  | .iaload => chk len 1 (hLd (okT .int) pc H st)
  | .caload => chk len 1 (hLd (okT .char) pc H st)
  | .laload => chk len 1 (hLd (okT .long) pc H st)
  | .baload => chk len 1 (hLd okB pc H st)
  | .iastore => chk len 1 (hSt (okT .int) k pc H st)
  | .castore => chk len 1 (hSt (okT .char) k pc H st)
  | .lastore => chk len 1 (hSt (okT .long) k pc H st)
  | .bastore => chk len 1 (hSt okB k pc H st)
  | .arraylength => chk len 1 (hLen pc H st)
  | .ldc i => chk len 2 ((rCon ws y.cls i).map fun v => (pc + 2, .int v :: st, H))
  | .ldc_w i => chk len 3 ((rCon ws y.cls i).map fun v => (pc + 3, .int v :: st, H))
  | .ldc2_w i => chk len 3 ((rConL ws y.cls i).map fun v => (pc + 3, .long v :: st, H))
  | _ => none
def ent : List Value → List Slot
  | [] => []
  | v :: r => if v.category = 2 then .val v :: .second :: ent r else .val v :: ent r
def entry (as : List Value) (mx : Nat) : List Slot := ent as ++ List.replicate (mx - (ent as).length) .unset
def wsum (st : List Value) : Nat := (st.map fun v => v.category).sum
abbrev Dn := List (MethodName × Nat × Nat)
def dnOf (dn : Dn) (y : MethodName) : Option (Nat × Nat) := dn.findSome? fun q => if q.1 = y then some q.2 else none
/-- what a methodref says: callee, its code, max_locals, return, number of parameters, slack for what lies under -/
def cR (ws : Ws) (dn : Dn) (y : MethodName) (i : Nat) : Option (MethodName × ByteArray × Nat × Option FieldType × Nat × Nat) :=
  match rMth ws y.cls i with
  | none => none
  | some y' =>
    match rCode ws y', dnOf dn y', dnOf dn y, parseMethodDescriptor y'.desc with
    | some (b, mx, r), some (f', l'), some (f, l), some sig =>
      if hasInit ws y'.cls = true ∧ Jvm.plainName y'.cls = true ∧ y'.cls ≠ "java/lang/invoke/MethodHandle" ∧ y'.cls ≠ "java/lang/invoke/VarHandle" ∧ f' + 1 ≤ f ∧ mx + 11 + l' ≤ l then
        some (y', b, mx, r, sig.parameters.length, l - (mx + 11 + l')) else none
    | _, _, _, _ => none
def sR (ws : Ws) (dn : Dn) (y : MethodName) (i : Nat) : Option (MethodName × ByteArray × Nat × Option FieldType × Nat × Nat) :=
  match cR ws dn y i with
  | some q => if hasStat ws q.1 = true then some q else none
  | none => none
def nR (ws : Ws) (dn : Dn) (y : MethodName) (i : Nat) : Option (MethodName × ByteArray × Nat × Option FieldType × Nat × Nat) :=
  match cR ws dn y i with
  | some q => if q.1.name = "<init>" ∧ hasIM ws q.1 = true ∧ q.2.2.2.1 = none then some q else none
  | none => none
/-- the first: is it private? -/
def vR (ws : Ws) (dn : Dn) (y : MethodName) (i : Nat) : Option (Bool × MethodName × ByteArray × Nat × Option FieldType × Nat × Nat) :=
  match cR ws dn y i with
  | some q => if hasIM ws q.1 = true then
      (if hasPriv ws q.1 = true ∧ (rInst ws q.1.cls).isSome = true then some (true, q) else if hasDecl ws q.1 = true ∧ hasSel ws q.1 = true then some (false, q) else none) else none
  | none => none
/-- Object.<init>: how many words may lie under it -/
def oR (ws : Ws) (dn : Dn) (y : MethodName) (i : Nat) : Option Nat :=
  match rMth ws y.cls i, rCode ws Lib.objectInit, dnOf dn y with
  | some y', some (b, mx, r), some (f, l) =>
    if y' = Lib.objectInit ∧ hasIM ws Lib.objectInit = true ∧ b.data = #[0xb1] ∧ mx = 1 ∧ r = none ∧ 1 ≤ f ∧ 12 ≤ l then some (l - 12) else none
  | _, _, _ => none
abbrev Call := MethodName × ByteArray × Option FieldType × List Slot × List Value
/-- returns and calls -/
def cstep (ws : Ws) (dn : Dn) (y : MethodName) (ret : Option FieldType) (ins : Instr) (len pc : Nat) (ls : List Slot) (st : List Value) (H : AHeap) : Option (Option Value ⊕ (Nat × List Slot × List Value × AHeap) ⊕ Call) :=
  match ins with
  | .ireturn => chk len 1 (match st, ret with
      | .int z :: _, some t => if t = .int ∨ t = .boolean ∨ t = .byte ∨ t = .char ∨ t = .short then some (.inl (some (.int (nar t z)))) else none
      | _, _ => none)
  | .lreturn => chk len 1 (match st, ret with
      | [.long z], some .long => some (.inl (some (.long z)))
      | _, _ => none)
  | .return_ => chk len 1 (match st, ret with
      | [], none => some (.inl none)
      | _, _ => none)
  | .invokestatic i => chk len 3 (match sR ws dn y i with
      | some (y', b, mx, r, na, sl) =>
        if na ≤ st.length ∧ wsum (st.drop na) ≤ sl ∧ (ent (st.take na).reverse).length ≤ mx then
          some (.inr (.inr (y', b, r, entry (st.take na).reverse mx, st.drop na)))
        else none
      | none => none)
  | .invokespecial i => chk len 3 (match oR ws dn y i with
      | some sl => (match st with
          | .ref _ :: r => if wsum r ≤ sl then some (.inr (.inl (pc + 3, ls, r, H))) else none
          | _ => none)
      | none => match nR ws dn y i with
        | some (y', b, mx, r, na, sl) =>
          (match st.drop na with
          | .ref a :: rest =>
            if wsum rest ≤ sl ∧ (ent (.ref a :: (st.take na).reverse)).length ≤ mx ∧ na ≤ st.length then
              some (.inr (.inr (y', b, r, entry (.ref a :: (st.take na).reverse) mx, rest)))
            else none
          | _ => none)
        | none => none)
  | .invokevirtual i => chk len 3 (match vR ws dn y i with
      | some (pv, y', b, mx, r, na, sl) =>
        (match st.drop na with
        | .ref a :: rest =>
          (match H[a]? with
          | some (.object C, _) =>
            if (pv = true ∨ C = y'.cls) ∧ wsum rest ≤ sl ∧ (ent (.ref a :: (st.take na).reverse)).length ≤ mx ∧ na ≤ st.length then
              some (.inr (.inr (y', b, r, entry (.ref a :: (st.take na).reverse) mx, rest)))
            else none
          | _ => none)
        | _ => none)
      | none => none)
  | _ => none
/-- what the machine does next: it returns, it steps, it calls -/
def act (ws : Ws) (dn : Dn) (k : Nat) (y : MethodName) (bytes : ByteArray) (ret : Option FieldType) (pc : Nat) (ls : List Slot) (st : List Value) (H : AHeap) : Option (Option Value ⊕ (Nat × List Slot × List Value × AHeap) ⊕ Call) :=
  match decode bytes pc with
  | .error _ => none
  | .ok (ins, len) =>
    match xstep ins len pc ls st with
    | some q => some (.inr (.inl (q.1, q.2.1, q.2.2, H)))
    | none => match hstep ws k y ins len pc st H with
      | some q => some (.inr (.inl (q.1, ls, q.2.1, q.2.2)))
      | none => cstep ws dn y ret ins len pc ls st H
def run (ws : Ws) (dn : Dn) (k : Nat) : Nat → MethodName → ByteArray → Option FieldType → Nat → List Slot → List Value → AHeap → Option (Option Value × AHeap)
  | 0, _, _, _, _, _, _, _ => none
  | n + 1, y, bytes, ret, pc, ls, st, H =>
    match act ws dn k y bytes ret pc ls st H with
    | none => none
    | some (.inl v) => some (v, H)
    | some (.inr (.inl (pc', ls', st', H'))) => run ws dn k n y bytes ret pc' ls' st' H'
    | some (.inr (.inr (y', b, r, en, rest))) =>
      match run ws dn k n y' b r 0 en [] H with
      | some (v, H1) => run ws dn k n y bytes ret (pc + 3) ls (v.toList ++ rest) H1
      | none => none
end Jvm.Own
namespace Jvm.Own
open Sem ClassFile Op Lib Jvm.Stand Jvm.Free Jvm.LawKit Jvm.RoadKit
/-! OWN 3: the abstract machine's plain steps are the machine's -/
def ren (f : Nat → Nat) : Value → Value
  | .ref a => .ref (f a)
  | v => v
def renS (f : Nat → Nat) : Slot → Slot
  | .val v => .val (ren f v)
  | s => s
abbrev fr (f : Nat → Nat) (m : MethodId) (pc : Nat) (ls : List Slot) (st : List Value) : JFrame := mkF m pc (ls.map (renS f)).toArray (st.map (ren f))
theorem ren_cat (f : Nat → Nat) (v : Value) : (ren f v).category = v.category := by cases v <;> rfl
theorem ren_isRef (f : Nat → Nat) (v : Value) : (ren f v).isRef = v.isRef := by cases v <;> rfl
theorem isI_int {v : Value} (h : isI v = true) : ∃ x, v = .int x := by cases v <;> first | exact ⟨_, rfl⟩ | cases h
theorem isL_long {v : Value} (h : isL v = true) : ∃ x, v = .long x := by cases v <;> first | exact ⟨_, rfl⟩ | cases h
theorem chk_some {α : Type} {a b : Nat} {x : Option α} {r : α} (h : chk a b x = some r) : a = b ∧ x = some r := by
  unfold chk at h
  split at h
  · exact ⟨by assumption, h⟩
  · cases h
theorem loc_get {f : Nat → Nat} {ls : List Slot} {i : Nat} {s : Slot} (h : ls[i]? = some s) : ((ls.map (renS f)).toArray)[i]? = some (renS f s) := by
  rw [List.getElem?_toArray, List.getElem?_map, h]; rfl
theorem setAt_ren (f : Nat → Nat) (l : Array Slot) (i : Nat) (x : Slot) : setAt (l.map (renS f)) i (renS f x) = (setAt l i x).map fun a => a.map (renS f) := by
  unfold setAt
  rw [Array.size_map]
  split
  · rw [Option.map_some, Array.map_setIfInBounds]
  · rfl
theorem storeSelf_ren (f : Nat → Nat) (l : Array Slot) (i : Nat) (v : Value) : storeSelf (l.map (renS f)) i (ren f v) = (storeSelf l i v).map fun a => a.map (renS f) := by
  have h0 : setAt (l.map (renS f)) i (.val (ren f v)) = _ := setAt_ren f l i (.val v)
  simp only [storeSelf, h0, ren_cat]
  cases setAt l i (.val v) with
  | none => rfl
  | some l1 =>
    simp only [Option.map_some, Option.bind_eq_bind, Option.bind_some, bind_pure_comp]
    split
    · rw [Array.getElem?_map]
      cases l1[i + 1]? with
      | none => rfl
      | some s =>
        simp only [Option.map_some, Option.bind_some]
        cases s with
        | unset => exact setAt_ren f l1 (i + 1) .second
        | second => exact setAt_ren f l1 (i + 1) .second
        | val w =>
          simp only [renS, ren_cat]
          split
          · have h1 : setAt (l1.map (renS f)) (i + 2) .unset = _ := setAt_ren f l1 (i + 2) .unset
            rw [h1]
            cases setAt l1 (i + 2) .unset with
            | none => rfl
            | some l2 => exact setAt_ren f l2 (i + 1) .second
          · exact setAt_ren f l1 (i + 1) .second
    · rfl
theorem storeLocals_ren (f : Nat → Nat) (l : Array Slot) (i : Nat) (v : Value) : storeLocals (l.map (renS f)) i (ren f v) = (storeLocals l i v).map fun a => a.map (renS f) := by
  simp only [storeLocals, Array.getElem?_map]
  cases l[i]? with
  | none => rfl
  | some s =>
    simp only [Option.map_some, Option.bind_eq_bind, Option.bind_some]
    cases s with
    | unset => exact storeSelf_ren f l i v
    | second =>
      have h1 : setAt (l.map (renS f)) (i - 1) .unset = _ := setAt_ren f l (i - 1) .unset
      simp only [renS, h1]
      cases setAt l (i - 1) .unset with
      | none => rfl
      | some l2 => exact storeSelf_ren f l2 i v
    | val w =>
      simp only [renS, ren_cat]
      split
      · have h1 : setAt (l.map (renS f)) (i + 1) .unset = _ := setAt_ren f l (i + 1) .unset
        rw [h1]
        cases setAt l (i + 1) .unset with
        | none => rfl
        | some l2 => exact storeSelf_ren f l2 i v
      · exact storeSelf_ren f l i v
theorem stl_ren {f : Nat → Nat} {ls l' : List Slot} {i : Nat} {v : Value} (h : stl ls i v = some l') : storeLocals (ls.map (renS f)).toArray i (ren f v) = some (l'.map (renS f)).toArray := by
  unfold stl at h
  obtain ⟨a, ha, rfl⟩ := Option.map_eq_some_iff.mp h
  have := storeLocals_ren f ls.toArray i v
  rw [ha] at this
  rw [← List.map_toArray, this]
  simp [← Array.toList_inj]
theorem setAt_size {l l' : Array Slot} {i : Nat} {x : Slot} (h : setAt l i x = some l') : l'.size = l.size := by
  unfold setAt at h
  split at h
  · cases h; simp
  · cases h
theorem storeSelf_size {l l' : Array Slot} {i : Nat} {v : Value} (h : storeSelf l i v = some l') : l'.size = l.size := by
  simp only [storeSelf, Option.bind_eq_bind, Option.bind_eq_some_iff] at h
  obtain ⟨l1, h1, h⟩ := h
  have e1 := setAt_size h1
  split at h
  · obtain ⟨s, -, h⟩ := Option.bind_eq_some_iff.mp h
    split at h
    · split at h
      · obtain ⟨l2, h2, h⟩ := Option.bind_eq_some_iff.mp h
        rw [setAt_size h, setAt_size h2, e1]
      · rw [setAt_size h, e1]
    · rw [setAt_size h, e1]
  · cases h; exact e1
theorem storeLocals_size {l l' : Array Slot} {i : Nat} {v : Value} (h : storeLocals l i v = some l') : l'.size = l.size := by
  simp only [storeLocals, Option.bind_eq_bind, Option.bind_eq_some_iff] at h
  obtain ⟨s, -, h⟩ := h
  split at h
  · obtain ⟨l2, h2, h⟩ := Option.bind_eq_some_iff.mp h
    rw [storeSelf_size h, setAt_size h2]
  · split at h
    · obtain ⟨l2, h2, h⟩ := Option.bind_eq_some_iff.mp h
      rw [storeSelf_size h, setAt_size h2]
    · exact storeSelf_size h
  · exact storeSelf_size h
theorem stl_size {ls l' : List Slot} {i : Nat} {v : Value} (h : stl ls i v = some l') : l'.length = ls.length := by
  unfold stl at h
  obtain ⟨a, ha, rfl⟩ := Option.map_eq_some_iff.mp h
  have := storeLocals_size ha
  simpa using this
theorem ldV_some {p : Value → Bool} {nx i : Nat} {ls : List Slot} {st : List Value} {q : Nat × List Slot × List Value} (h : ldV p nx i ls st = some q) : ∃ v, ls[i]? = some (.val v) ∧ p v = true ∧ q = (nx, ls, v :: st) := by
  unfold ldV at h
  split at h
  · rename_i v hv
    split at h
    · cases h; exact ⟨v, hv, by assumption, rfl⟩
    · cases h
  · cases h
theorem stV_some {p : Value → Bool} {nx i : Nat} {ls : List Slot} {st : List Value} {q : Nat × List Slot × List Value} (h : stV p nx i ls st = some q) : ∃ v r l', st = v :: r ∧ p v = true ∧ stl ls i v = some l' ∧ q = (nx, l', r) := by
  unfold stV at h
  split at h
  · split at h
    · obtain ⟨l', h1, h2⟩ := Option.map_eq_some_iff.mp h
      exact ⟨_, _, l', rfl, by assumption, h1, h2.symm⟩
    · cases h
  · cases h
theorem b2_some {f : Int32 → Int32 → Int32} {nx : Nat} {ls : List Slot} {st : List Value} {q : Nat × List Slot × List Value} (h : b2 f nx ls st = some q) : ∃ x y r, st = .int y :: .int x :: r ∧ q = (nx, ls, .int (f x y) :: r) := by
  unfold b2 at h
  split at h
  · cases h; exact ⟨_, _, _, rfl, rfl⟩
  · cases h
theorem d2_some {f : Int32 → Int32 → Int32} {nx : Nat} {ls : List Slot} {st : List Value} {q : Nat × List Slot × List Value} (h : d2 f nx ls st = some q) : ∃ x y r, st = .int y :: .int x :: r ∧ y ≠ 0 ∧ q = (nx, ls, .int (f x y) :: r) := by
  unfold d2 at h
  split at h
  · split at h
    · cases h
    · cases h; exact ⟨_, _, _, rfl, by assumption, rfl⟩
  · cases h
theorem u1_some {f : Int32 → Int32} {nx : Nat} {ls : List Slot} {st : List Value} {q : Nat × List Slot × List Value} (h : u1 f nx ls st = some q) : ∃ x r, st = .int x :: r ∧ q = (nx, ls, .int (f x) :: r) := by
  unfold u1 at h
  split at h
  · cases h; exact ⟨_, _, rfl, rfl⟩
  · cases h
theorem l2_some {f : Int64 → Int64 → Int64} {nx : Nat} {ls : List Slot} {st : List Value} {q : Nat × List Slot × List Value} (h : l2 f nx ls st = some q) : ∃ x y r, st = .long y :: .long x :: r ∧ q = (nx, ls, .long (f x y) :: r) := by
  unfold l2 at h
  split at h
  · cases h; exact ⟨_, _, _, rfl, rfl⟩
  · cases h
theorem lsh_some {f : Int64 → Int32 → Int64} {nx : Nat} {ls : List Slot} {st : List Value} {q : Nat × List Slot × List Value} (h : lsh f nx ls st = some q) : ∃ x y r, st = .int y :: .long x :: r ∧ q = (nx, ls, .long (f x y) :: r) := by
  unfold lsh at h
  split at h
  · cases h; exact ⟨_, _, _, rfl, rfl⟩
  · cases h
theorem jmp_some {pc q : Nat} {o : Int} (h : jmp pc o = some q) : 0 ≤ (pc : Int) + o ∧ ((pc : Int) + o).toNat = q := by
  unfold jmp at h
  split at h
  · cases h; exact ⟨by assumption, rfl⟩
  · cases h
theorem br_some {c : Bool} {pc : Nat} {o : Int} {ls : List Slot} {r : List Value} {q : Nat × List Slot × List Value} (h : br c pc o ls r = some q) : (c = true ∧ ∃ t, 0 ≤ (pc : Int) + o ∧ ((pc : Int) + o).toNat = t ∧ q = (t, ls, r)) ∨ (c = false ∧ q = (pc + 3, ls, r)) := by
  unfold br at h
  split at h
  · obtain ⟨t, h1, h2⟩ := Option.map_eq_some_iff.mp h
    obtain ⟨h3, h4⟩ := jmp_some h1
    exact Or.inl ⟨by assumption, t, h3, h4, h2.symm⟩
  · rename_i hc; cases h; exact Or.inr ⟨by simpa using hc, rfl⟩
section X
variable {tb : Tables} [Ours tb] {e : Env} {below : List Frame} {T target : State} {m : MethodId} {c : Code}
set_option maxHeartbeats 4000000 in
theorem xstep_sound (h : At T m c below) (hx : tb.exec = Jvm.exec) (f : Nat → Nat) {ins : Instr} {len pc : Nat} {ls : List Slot} {st : List Value} {q : Nat × List Slot × List Value}
    (hd : decode c.code pc = .ok (ins, len)) (hs : xstep ins len pc ls st = some q) (hr : Steps tb e below (T.setTop (fr f m q.1 q.2.1 q.2.2)) target) : Steps tb e below (T.setTop (fr f m pc ls st)) target := by
  unfold xstep at hs
  split at hs
  · obtain ⟨rfl, hs⟩ := chk_some hs; obtain ⟨v, h1, h2, rfl⟩ := ldV_some hs
    exact XS.aloadN h hx rfl hd (loc_get h1) (by rw [ren_isRef]; exact h2) hr
  · obtain ⟨rfl, hs⟩ := chk_some hs; obtain ⟨v, h1, h2, rfl⟩ := ldV_some hs
    exact XS.aload h hx rfl hd (loc_get h1) (by rw [ren_isRef]; exact h2) hr
  · obtain ⟨rfl, hs⟩ := chk_some hs; obtain ⟨v, h1, h2, rfl⟩ := ldV_some hs; obtain ⟨x, rfl⟩ := isI_int h2
    exact XS.iloadN h hx rfl hd (loc_get (f := f) h1) hr
  · obtain ⟨rfl, hs⟩ := chk_some hs; obtain ⟨v, h1, h2, rfl⟩ := ldV_some hs; obtain ⟨x, rfl⟩ := isI_int h2
    exact XS.iload h hx rfl hd (loc_get (f := f) h1) hr
  · obtain ⟨rfl, hs⟩ := chk_some hs; obtain ⟨v, h1, h2, rfl⟩ := ldV_some hs; obtain ⟨x, rfl⟩ := isL_long h2
    exact XT.lloadN h hx rfl hd (loc_get (f := f) h1) hr
  · obtain ⟨rfl, hs⟩ := chk_some hs; obtain ⟨v, h1, h2, rfl⟩ := ldV_some hs; obtain ⟨x, rfl⟩ := isL_long h2
    exact XT.lload h hx rfl hd (loc_get (f := f) h1) hr
  · obtain ⟨rfl, hs⟩ := chk_some hs; obtain ⟨v, r, l', rfl, h2, h3, rfl⟩ := stV_some hs
    exact XS.astoreN h hx rfl hd rfl (by rw [ren_isRef]; exact h2) (stl_ren h3) hr
  · obtain ⟨rfl, hs⟩ := chk_some hs; obtain ⟨v, r, l', rfl, h2, h3, rfl⟩ := stV_some hs
    exact XS.astore h hx rfl hd rfl (by rw [ren_isRef]; exact h2) (stl_ren h3) hr
  · obtain ⟨rfl, hs⟩ := chk_some hs; obtain ⟨v, r, l', rfl, h2, h3, rfl⟩ := stV_some hs; obtain ⟨x, rfl⟩ := isI_int h2
    exact XS.istoreN h hx rfl hd rfl (stl_ren (f := f) h3) hr
  · obtain ⟨rfl, hs⟩ := chk_some hs; obtain ⟨v, r, l', rfl, h2, h3, rfl⟩ := stV_some hs; obtain ⟨x, rfl⟩ := isI_int h2
    exact XS.istore h hx rfl hd rfl (stl_ren (f := f) h3) hr
  · obtain ⟨rfl, hs⟩ := chk_some hs; obtain ⟨v, r, l', rfl, h2, h3, rfl⟩ := stV_some hs; obtain ⟨x, rfl⟩ := isL_long h2
    exact XT.lstoreN h hx rfl hd rfl (stl_ren (f := f) h3) hr
  · obtain ⟨rfl, hs⟩ := chk_some hs; obtain ⟨v, r, l', rfl, h2, h3, rfl⟩ := stV_some hs; obtain ⟨x, rfl⟩ := isL_long h2
    exact XT.lstore h hx rfl hd rfl (stl_ren (f := f) h3) hr
  · obtain ⟨rfl, hs⟩ := chk_some hs; cases hs
    exact XS.iconst h hx rfl hd hr
  · obtain ⟨rfl, hs⟩ := chk_some hs; cases hs
    exact XS.bipush h hx rfl hd hr
  · obtain ⟨rfl, hs⟩ := chk_some hs; cases hs
    exact XS.sipush h hx rfl hd hr
  · obtain ⟨rfl, hs⟩ := chk_some hs; cases hs
    exact XT.lconst h hx rfl hd hr
  · obtain ⟨rfl, hs⟩ := chk_some hs; obtain ⟨x, y, r, rfl, rfl⟩ := b2_some hs
    exact XS.iadd h hx rfl hd rfl hr
  · obtain ⟨rfl, hs⟩ := chk_some hs; obtain ⟨x, y, r, rfl, rfl⟩ := b2_some hs
    exact XS.isub h hx rfl hd rfl hr
  · obtain ⟨rfl, hs⟩ := chk_some hs; obtain ⟨x, y, r, rfl, rfl⟩ := b2_some hs
    exact XS.imul h hx rfl hd rfl hr
  · obtain ⟨rfl, hs⟩ := chk_some hs; obtain ⟨x, y, r, rfl, rfl⟩ := b2_some hs
    exact XS.iand h hx rfl hd rfl hr
  · obtain ⟨rfl, hs⟩ := chk_some hs; obtain ⟨x, y, r, rfl, rfl⟩ := b2_some hs
    exact XT.ior h hx rfl hd rfl hr
  · obtain ⟨rfl, hs⟩ := chk_some hs; obtain ⟨x, y, r, rfl, rfl⟩ := b2_some hs
    exact XT.ixor h hx rfl hd rfl hr
  · obtain ⟨rfl, hs⟩ := chk_some hs; obtain ⟨x, y, r, rfl, rfl⟩ := b2_some hs
    exact XT.ishl h hx rfl hd rfl hr
  · obtain ⟨rfl, hs⟩ := chk_some hs; obtain ⟨x, y, r, rfl, rfl⟩ := b2_some hs
    exact XT.ishr h hx rfl hd rfl hr
  · obtain ⟨rfl, hs⟩ := chk_some hs; obtain ⟨x, y, r, rfl, rfl⟩ := b2_some hs
    exact XT.iushr h hx rfl hd rfl hr
  · obtain ⟨rfl, hs⟩ := chk_some hs; obtain ⟨x, y, r, rfl, h2, rfl⟩ := d2_some hs
    exact XS.idiv h hx rfl hd rfl h2 hr
  · obtain ⟨rfl, hs⟩ := chk_some hs; obtain ⟨x, y, r, rfl, h2, rfl⟩ := d2_some hs
    refine XS.irem h hx rfl hd rfl h2 ?_
    have q : x - x / y * y = x % y := irem_eq_mod x y
    rw [q]; exact hr
  · obtain ⟨rfl, hs⟩ := chk_some hs; obtain ⟨x, r, rfl, rfl⟩ := u1_some hs
    exact XS.ineg h hx rfl hd rfl hr
  · obtain ⟨rfl, hs⟩ := chk_some hs; obtain ⟨x, r, rfl, rfl⟩ := u1_some hs
    exact XT.i2b h hx rfl hd rfl hr
  · obtain ⟨rfl, hs⟩ := chk_some hs; obtain ⟨x, r, rfl, rfl⟩ := u1_some hs
    exact XT.i2c h hx rfl hd rfl hr
  · obtain ⟨rfl, hs⟩ := chk_some hs; obtain ⟨x, y, r, rfl, rfl⟩ := l2_some hs
    exact XT.ladd h hx rfl hd rfl hr
  · obtain ⟨rfl, hs⟩ := chk_some hs; obtain ⟨x, y, r, rfl, rfl⟩ := l2_some hs
    exact XT.lsub h hx rfl hd rfl hr
  · obtain ⟨rfl, hs⟩ := chk_some hs; obtain ⟨x, y, r, rfl, rfl⟩ := l2_some hs
    exact XT.lmul h hx rfl hd rfl hr
  · obtain ⟨rfl, hs⟩ := chk_some hs; obtain ⟨x, y, r, rfl, rfl⟩ := l2_some hs
    exact XT.land h hx rfl hd rfl hr
  · obtain ⟨rfl, hs⟩ := chk_some hs; obtain ⟨x, y, r, rfl, rfl⟩ := l2_some hs
    exact XT.lor h hx rfl hd rfl hr
  · obtain ⟨rfl, hs⟩ := chk_some hs; obtain ⟨x, y, r, rfl, rfl⟩ := l2_some hs
    exact XT.lxor h hx rfl hd rfl hr
  · obtain ⟨rfl, hs⟩ := chk_some hs; obtain ⟨x, y, r, rfl, rfl⟩ := lsh_some hs
    exact XT.lshl h hx rfl hd rfl hr
  · obtain ⟨rfl, hs⟩ := chk_some hs; obtain ⟨x, y, r, rfl, rfl⟩ := lsh_some hs
    exact XT.lshr h hx rfl hd rfl hr
  · obtain ⟨rfl, hs⟩ := chk_some hs; obtain ⟨x, y, r, rfl, rfl⟩ := lsh_some hs
    exact XT.lushr h hx rfl hd rfl hr
  · obtain ⟨rfl, hs⟩ := chk_some hs
    split at hs
    · cases hs; exact XT.lneg h hx rfl hd rfl hr
    · cases hs
  · obtain ⟨rfl, hs⟩ := chk_some hs
    split at hs
    · cases hs; exact XT.i2l h hx rfl hd rfl hr
    · cases hs
  · obtain ⟨rfl, hs⟩ := chk_some hs
    split at hs
    · cases hs; exact XT.l2i h hx rfl hd rfl hr
    · cases hs
  · obtain ⟨rfl, hs⟩ := chk_some hs
    split at hs
    · cases hs; exact XT.lcmp h hx rfl hd rfl hr
    · cases hs
  · obtain ⟨rfl, hs⟩ := chk_some hs
    split at hs
    · rename_i x h1
      obtain ⟨l', h2, rfl⟩ := Option.map_eq_some_iff.mp hs
      exact XS.iinc h hx rfl hd (loc_get (f := f) h1) (stl_ren (f := f) h2) hr
    · cases hs
  · obtain ⟨rfl, hs⟩ := chk_some hs
    split at hs
    · split at hs
      · rename_i hc; cases hs; exact XS.dup h hx rfl hd rfl (by rw [ren_cat]; exact hc) hr
      · cases hs
    · cases hs
  · obtain ⟨rfl, hs⟩ := chk_some hs
    split at hs
    · cases hs; exact XT.dup2L h hx rfl hd rfl hr
    · split at hs
      · rename_i hc; cases hs; exact XT.dup2 h hx rfl hd rfl (by rw [ren_cat]; exact hc.1) (by rw [ren_cat]; exact hc.2) hr
      · cases hs
    · cases hs
  · obtain ⟨rfl, hs⟩ := chk_some hs
    split at hs
    · split at hs
      · rename_i hc; cases hs; exact XT.pop h hx rfl hd rfl (by rw [ren_cat]; exact hc) hr
      · cases hs
    · cases hs
  · obtain ⟨rfl, hs⟩ := chk_some hs
    obtain ⟨t, h1, rfl⟩ := Option.map_eq_some_iff.mp hs
    obtain ⟨h2, h3⟩ := jmp_some h1
    exact XS.goto h hx rfl rfl hd h2 h3 hr
  · obtain ⟨rfl, hs⟩ := chk_some hs
    split at hs
    · rcases br_some hs with ⟨hc, t, h1, h2, rfl⟩ | ⟨hc, rfl⟩
      · exact XS.ifYes h hx rfl rfl hd rfl hc h1 h2 hr
      · exact XS.ifNo h hx rfl hd rfl hc hr
    · cases hs
  · obtain ⟨rfl, hs⟩ := chk_some hs
    split at hs
    · rcases br_some hs with ⟨hc, t, h1, h2, rfl⟩ | ⟨hc, rfl⟩
      · exact XS.icmpYes h hx rfl rfl hd rfl hc h1 h2 hr
      · exact XS.icmpNo h hx rfl hd rfl hc hr
    · cases hs
  · unfold sw at hs
    split at hs
    · split at hs
      · rename_i hc
        obtain ⟨t, h1, rfl⟩ := Option.map_eq_some_iff.mp hs
        obtain ⟨h2, h3⟩ := jmp_some h1
        exact XS.tswOut h hx rfl rfl hd rfl hc h2 h3 hr
      · rename_i hc
        split at hs
        · rename_i o ho
          obtain ⟨t, h1, rfl⟩ := Option.map_eq_some_iff.mp hs
          obtain ⟨h2, h3⟩ := jmp_some h1
          exact XS.tswIn h hx rfl rfl hd rfl hc ho h2 h3 hr
        · cases hs
    · cases hs
  · cases hs
end X
theorem xstep_size {ins : Instr} {len pc : Nat} {ls : List Slot} {st : List Value} {q : Nat × List Slot × List Value} (hs : xstep ins len pc ls st = some q) : q.2.1.length = ls.length := by
  unfold xstep at hs
  split at hs
  all_goals first
    | (obtain ⟨rfl, hs⟩ := chk_some hs; obtain ⟨v, h1, h2, rfl⟩ := ldV_some hs; rfl)
    | (obtain ⟨rfl, hs⟩ := chk_some hs; obtain ⟨v, r, l', rfl, h2, h3, rfl⟩ := stV_some hs; exact stl_size h3)
    | (obtain ⟨rfl, hs⟩ := chk_some hs; cases hs; rfl)
    | (obtain ⟨rfl, hs⟩ := chk_some hs; obtain ⟨x, y, r, rfl, rfl⟩ := b2_some hs; rfl)
    | (obtain ⟨rfl, hs⟩ := chk_some hs; obtain ⟨x, y, r, rfl, h2, rfl⟩ := d2_some hs; rfl)
    | (obtain ⟨rfl, hs⟩ := chk_some hs; obtain ⟨x, r, rfl, rfl⟩ := u1_some hs; rfl)
    | (obtain ⟨rfl, hs⟩ := chk_some hs; obtain ⟨x, y, r, rfl, rfl⟩ := l2_some hs; rfl)
    | (obtain ⟨rfl, hs⟩ := chk_some hs; obtain ⟨x, y, r, rfl, rfl⟩ := lsh_some hs; rfl)
    | (obtain ⟨rfl, hs⟩ := chk_some hs; split at hs <;> first | (cases hs; rfl) | (cases hs; done))
    | (obtain ⟨rfl, hs⟩ := chk_some hs; split at hs <;> first | (obtain ⟨l', h2, rfl⟩ := Option.map_eq_some_iff.mp hs; exact stl_size h2) | (cases hs; done))
    | (obtain ⟨rfl, hs⟩ := chk_some hs; split at hs <;> first | (split at hs <;> first | (cases hs; rfl) | (cases hs; done)) | (cases hs; rfl) | (cases hs; done))
    | (obtain ⟨rfl, hs⟩ := chk_some hs; obtain ⟨t, h1, rfl⟩ := Option.map_eq_some_iff.mp hs; rfl)
    | (obtain ⟨rfl, hs⟩ := chk_some hs; split at hs <;> first | (rcases br_some hs with ⟨hc, t, h1, h2, rfl⟩ | ⟨hc, rfl⟩ <;> rfl) | (cases hs; done))
    | (unfold sw at hs; split at hs <;> first | (cases hs; done) | (split at hs <;> first | (obtain ⟨t, h1, rfl⟩ := Option.map_eq_some_iff.mp hs; rfl) | (split at hs <;> first | (obtain ⟨t, h1, rfl⟩ := Option.map_eq_some_iff.mp hs; rfl) | (cases hs; done))))
    | (cases hs; done)
end Jvm.Own
namespace Jvm.Own
open Sem ClassFile Op Lib Jvm.Stand Jvm.Free Jvm.LawKit Jvm.RoadKit
/-! OWN 4: the heap's steps -/
def adr (k sa n0 i : Nat) : Nat := if i < k then sa else n0 + (i - k)
def SimO (Z : State) (ws : Ws) (f : Nat → Nat) (h : Heap) (a : Addr) : FieldType × List Value → Prop
  | (.object C, vs) => Exa Z h a C ∧ ∀ n t j, fidx ws C n t = some j → ∃ v, vs[j]? = some v ∧ Fld Z h a C n t (ren f v)
  | (.array ty, vs) => ∃ c : Cell, Arr Z h a c ty ∧ c.slots = (vs.map (ren f)).toArray
  | _ => False
def Sim (Z : State) (ws : Ws) (k sa n0 : Nat) (H : AHeap) (h : Heap) : Prop :=
  h.size = n0 + (H.length - k) ∧ k ≤ H.length ∧ k ≤ 1 ∧ (1 ≤ k → sa < n0) ∧ ∀ i o, H[i]? = some o → SimO Z ws (adr k sa n0) h (adr k sa n0 i) o
def cost (ws : Ws) : FieldType × List Value → Nat
  | (.object C, _) => (rInst ws C).getD 0
  | (_, vs) => vs.length
def tot (ws : Ws) (H : AHeap) : Nat := (H.map (cost ws)).sum
theorem adr_inj {k sa n0 i j : Nat} (hk : k ≤ 1) (hs : 1 ≤ k → sa < n0) (e : adr k sa n0 i = adr k sa n0 j) : i = j := by
  unfold adr at e; split at e <;> split at e <;> omega
theorem adr_ge {k sa n0 a : Nat} (h : k ≤ a) : n0 ≤ adr k sa n0 a := by
  unfold adr; rw [if_neg (by omega)]; omega
theorem tot_app (ws : Ws) (H : AHeap) (o : FieldType × List Value) : tot ws (H ++ [o]) = tot ws H + cost ws o := by simp [tot]
theorem tot_set {ws : Ws} : ∀ {H : AHeap} {a : Nat} {o o' : FieldType × List Value}, H[a]? = some o → cost ws o' = cost ws o → tot ws (H.set a o') = tot ws H
  | [], _, _, _, h, _ => by cases h
  | x :: r, 0, o, o', h, e => by
    simp only [List.getElem?_cons_zero, Option.some.injEq] at h; subst h
    simp [tot, e]
  | x :: r, a + 1, o, o', h, e => by
    have := tot_set (ws := ws) (H := r) (a := a) (o := o) (o' := o') (by simpa using h) e
    simp only [tot, List.set_cons_succ, List.map_cons, List.sum_cons] at this ⊢
    rw [this]
theorem ren_dflt (f : Nat → Nat) (ty : FieldType) : ren f (defaultValue ty) = defaultValue ty := by cases ty <;> rfl
section Facts
variable {Z : State} {ws : Ws} {f : Nat → Nat} {h h' : Heap} {a b : Addr} {o : FieldType × List Value} {sl : Nat} {v : Value}
theorem SimO.ext (E : Ext h h') (S : SimO Z ws f h a o) : SimO Z ws f h' a o := by
  unfold SimO at S ⊢
  split at S
  · exact ⟨S.1.ext E, fun n t j q => by obtain ⟨v, h1, h2⟩ := S.2 n t j q; exact ⟨v, h1, h2.ext E⟩⟩
  · obtain ⟨c, h1, h2⟩ := S; exact ⟨c, h1.ext E, h2⟩
  · exact S.elim
theorem SimO.other (W : Wr h h' b sl v) (ne : a ≠ b) (S : SimO Z ws f h a o) : SimO Z ws f h' a o := by
  unfold SimO at S ⊢
  split at S
  · exact ⟨S.1.wr W, fun n t j q => by obtain ⟨v, h1, h2⟩ := S.2 n t j q; exact ⟨v, h1, h2.other W (Or.inl ne)⟩⟩
  · obtain ⟨c, h1, h2⟩ := S; exact ⟨c, h1.other W ne, h2⟩
  · exact S.elim
theorem Sim.push {k sa n0 : Nat} {H : AHeap} (S : Sim Z ws k sa n0 H h) (E : Ext h h') (hz : h'.size = h.size + 1) (O : SimO Z ws (adr k sa n0) h' h.size o) : Sim Z ws k sa n0 (H ++ [o]) h' := by
  obtain ⟨h1, h2, h3, h4, h5⟩ := S
  refine ⟨by rw [hz, h1, List.length_append, List.length_singleton]; omega, by rw [List.length_append]; omega, h3, h4, fun i o' q => ?_⟩
  rcases Nat.lt_trichotomy i H.length with g | g | g
  · rw [List.getElem?_append_left g] at q; exact (h5 i o' q).ext E
  · subst g
    rw [List.getElem?_append_right (Nat.le_refl _), Nat.sub_self] at q
    cases q
    have e : adr k sa n0 H.length = h.size := by unfold adr; rw [if_neg (by omega), h1]
    rw [e]; exact O
  · rw [List.getElem?_eq_none (by simp; omega)] at q; cases q
theorem Sim.next {k sa n0 : Nat} {H : AHeap} (S : Sim Z ws k sa n0 H h) : h.size = adr k sa n0 H.length := by
  obtain ⟨h1, h2, -⟩ := S
  unfold adr; rw [if_neg (by omega), h1]
theorem Wr.upd {k sa n0 i : Nat} {H : AHeap} {o' : FieldType × List Value} (S : Sim Z ws k sa n0 H h) (W : Wr h h' (adr k sa n0 i) sl v) (O : SimO Z ws (adr k sa n0) h' (adr k sa n0 i) o') : Sim Z ws k sa n0 (H.set i o') h' := by
  obtain ⟨h1, h2, h3, h4, h5⟩ := S
  refine ⟨by rw [W.size, h1, List.length_set], by rw [List.length_set]; exact h2, h3, h4, fun j q hq => ?_⟩
  by_cases e : i = j
  · subst e
    rw [List.getElem?_set_self' ] at hq
    cases hi : H[i]? with
    | none => rw [hi] at hq; cases hq
    | some x => rw [hi] at hq; cases hq; exact O
  · rw [List.getElem?_set_ne e] at hq
    exact (h5 j q hq).other W fun g => e (adr_inj h3 h4 g).symm
end Facts
theorem putv_ok {ty : FieldType} {v v' : Value} (f : Nat → Nat) (h : putv ty v = some v') : narrow ty (ren f v) = ren f v' ∧ fits ty (ren f v') = true := by
  unfold putv at h
  split at h
  · cases h; exact ⟨rfl, rfl⟩
  · cases h; exact ⟨rfl, fits_nar_bool _⟩
  · cases h; exact ⟨rfl, fits_nar_byte _⟩
  · cases h; exact ⟨rfl, fits_nar_char _⟩
  · cases h; exact ⟨rfl, fits_nar_short _⟩
  · cases h; exact ⟨rfl, rfl⟩
  · cases h; exact ⟨rfl, rfl⟩
  · cases h
theorem size_set (c : Cell) (j : Nat) (v : Value) (f : Nat → Nat) {vs : List Value} {v' : Value} (e : c.slots = (vs.map (ren f)).toArray) (q : v = ren f v') : (c.setSlot j v).slots = ((vs.set j v').map (ren f)).toArray := by
  subst q
  show c.slots.setIfInBounds j (ren f v') = _
  rw [e, List.setIfInBounds_toArray, List.map_set]
section H
variable {p : Program} {l : Launch} {e : Env} {R : Room} {s : State} {m : MethodId} {args : Array Value} {below : List Frame} {meth : Method} {c : Code} {T : State} {locs : List Loc} {cells slots : Nat}
  {Z : State} {a0 : Array Value} {ws : Ws} {k sa n0 : Nat} {y : MethodName} {pc : Nat} {ls : List Slot} {st : List Value} {H : AHeap}
/-- the point behind one step -/
def Beh (p : Program) (l : Launch) (e : Env) (R : Room) (s : State) (m : MethodId) (args : Array Value) (below : List Frame) (meth : Method) (c : Code) (T : State) (Z : State) (ws : Ws) (k sa n0 cells slots : Nat) (H : AHeap) (g : JFrame) (pc' : Nat) (ls' : List Slot) (st' : List Value) (H' : AHeap) : Prop :=
  ∃ T' locs', Stand p l e R s m args below meth c T' locs' (cells + (H'.length - H.length)) (slots + (tot ws H' - tot ws H)) ∧ Sim Z ws k sa n0 H' T'.heap ∧ Fr n0 locs' ∧
    ∀ target, Steps p.tables e below (T'.setTop (fr (adr k sa n0) m pc' ls' st')) target → Steps p.tables e below (T.setTop g) target
theorem Beh.stay {g : JFrame} {pc' : Nat} {st' : List Value} {T' : State} (X : Stand p l e R s m args below meth c T' locs cells slots) (S : Sim Z ws k sa n0 H T'.heap) (N : Fr n0 locs)
    (h : ∀ target, Steps p.tables e below (T'.setTop (fr (adr k sa n0) m pc' ls st')) target → Steps p.tables e below (T.setTop g) target) : Beh p l e R s m args below meth c T Z ws k sa n0 cells slots H g pc' ls st' H :=
  ⟨T', locs, by rw [Nat.sub_self, Nat.sub_self]; exact X, S, N, h⟩
theorem hGet_sound (hw : ∀ d ∈ ws, d.before a0 Z = true) (X : Stand p l e R s m args below meth c T locs cells slots) (hx : p.tables.exec = Jvm.exec) (hZ : Z.Warmed39 s.vm) (hown : s.vm.findClass y.cls = some m.cls)
    {i : Nat} (hd : decode c.code pc = .ok (.getfield i, 3)) {q : Nat × List Value × AHeap} (hs : hGet ws y.cls i pc H st = some q) (S : Sim Z ws k sa n0 H T.heap) (N : Fr n0 locs) :
    Beh p l e R s m args below meth c T Z ws k sa n0 cells slots H (fr (adr k sa n0) m pc ls st) q.1 ls q.2.1 q.2.2 := by
  unfold hGet at hs
  split at hs
  · rename_i a r
    split at hs
    · rename_i C j C' vs q1 q2
      split at hs
      · rename_i hC; subst hC
        obtain ⟨v, hv, rfl⟩ := Option.map_eq_some_iff.mp hs
        obtain ⟨n, t, r1, r2⟩ := gfR_some q1
        obtain ⟨v', hv', F⟩ := (S.2.2.2.2 a _ q2).2 n t j r2
        cases hv.symm.trans hv'
        obtain ⟨T', X', e', st'⟩ := getF X hx hZ hown (host := "") (Or.inl (hw _ (rFld_mem r1))) Via.refl rfl F (g := fr (adr k sa n0) m pc ls (.ref a :: r)) rfl rfl hd
        exact Beh.stay X' (by rw [e']; exact S) N st'
      · cases hs
    · cases hs
  · cases hs
theorem hPut_sound (hw : ∀ d ∈ ws, d.before a0 Z = true) (X : Stand p l e R s m args below meth c T locs cells slots) (hx : p.tables.exec = Jvm.exec) (hZ : Z.Warmed39 s.vm) (hown : s.vm.findClass y.cls = some m.cls) (hnm : meth.name = y.name)
    {i : Nat} (hd : decode c.code pc = .ok (.putfield i, 3)) {q : Nat × List Value × AHeap} (hs : hPut ws k y.cls y.name i pc H st = some q) (S : Sim Z ws k sa n0 H T.heap) (N : Fr n0 locs) :
    Beh p l e R s m args below meth c T Z ws k sa n0 cells slots H (fr (adr k sa n0) m pc ls st) q.1 ls q.2.1 q.2.2 := by
  unfold hPut at hs
  split at hs
  · rename_i v a r
    split at hs
    · rename_i C j ty C' vs q1 q2
      split at hs
      · rename_i hC; obtain ⟨rfl, hk, hj⟩ := hC
        obtain ⟨v', hv, rfl⟩ := Option.map_eq_some_iff.mp hs
        obtain ⟨n, t, r1, r2, r3, r4, ⟨ki, r5⟩, r6⟩ := pfR_some q1
        have SO := S.2.2.2.2 a _ q2
        obtain ⟨w, hw', F⟩ := SO.2 n t j r2
        obtain ⟨g1, g2⟩ := putv_ok (adr k sa n0) hv
        obtain ⟨T', h', X', e', W, st'⟩ := putFN X hx hZ hown (hw _ (rFld_mem r1)) Via.refl rfl F SO.1 (r4.imp (fun q => hw _ q) fun q => ⟨hw _ q.1, q.2.1, hnm.trans q.2.2⟩) (hw _ r5) r3 g1 g2 (g := fr (adr k sa n0) m pc ls (v :: .ref a :: r)) rfl rfl hd
        have LL : ∀ {n' t' : String}, (n', t') ∈ olay ws C → Laid Z a0 C C n' t' := fun q => (lay_mem q).1.imp (fun q => hw _ q) (fun q => hw _ q)
        have O' : SimO Z ws (adr k sa n0) h' (adr k sa n0 a) (.object C, vs.set j v') := by
          refine ⟨SO.1.wr W, fun n' t' j' q' => ?_⟩
          obtain ⟨u, hu, F'⟩ := SO.2 n' t' j' q'
          by_cases ej : j = j'
          · subst ej
            obtain ⟨rfl, rfl⟩ := fidx_inj r2 q'
            exact ⟨v', by rw [List.getElem?_set_self hj], F.same W⟩
          · refine ⟨u, by rw [List.getElem?_set_ne ej]; exact hu, F'.other W (Or.inr ?_)⟩
            obtain ⟨-, ty', p'⟩ := lay_mem (fidx_mem q')
            refine slot_ne (LL (fidx_mem q')) (LL (fidx_mem r2)) (fun en => ?_) p' r3
            rcases r6 n' t' (fidx_mem q') with g | g
            · exact g en
            · subst en g; rw [r2] at q'; exact ej (Option.some.inj q')
        refine ⟨T', _, ?_, by rw [e']; exact Wr.upd S W O', Fr.snoc X' N (adr_ge hk), st'⟩
        show Stand p l e R s m args below meth c T' _ (cells + ((H.set a (.object C, vs.set j v')).length - H.length)) (slots + (tot ws (H.set a (.object C, vs.set j v')) - tot ws H))
        rw [List.length_set, tot_set (o := (.object C, vs)) (o' := (.object C, vs.set j v')) q2 rfl, Nat.sub_self, Nat.sub_self]
        exact X'
      · cases hs
    · cases hs
  · cases hs
theorem hNew_sound (hw : ∀ d ∈ ws, d.before a0 Z = true) (X : Stand p l e R s m args below meth c T locs cells slots) (hx : p.tables.exec = Jvm.exec) (hZ : Z.Warmed39 s.vm) (hown : s.vm.findClass y.cls = some m.cls)
    {i : Nat} (hd : decode c.code pc = .ok (.new i, 3)) {q : Nat × List Value × AHeap} (hs : hNew ws y.cls i pc H st = some q) (S : Sim Z ws k sa n0 H T.heap) (N : Fr n0 locs)
    (hc : cells + (q.2.2.length - H.length) ≤ R.cells) (hl : slots + (tot ws q.2.2 - tot ws H) ≤ R.slots) (hz0 : T.heap.size = s.heap.size + cells) :
    Beh p l e R s m args below meth c T Z ws k sa n0 cells slots H (fr (adr k sa n0) m pc ls st) q.1 ls q.2.1 q.2.2 := by
  unfold hNew at hs
  split at hs
  · rename_i C q1
    split at hs
    · rename_i g; cases hs
      obtain ⟨ki, hki⟩ := Option.isSome_iff_exists.mp g.1
      have ec : (H ++ [(FieldType.object C, (olay ws C).map dflt)]).length - H.length = 1 := by simp
      have es : tot ws (H ++ [(FieldType.object C, (olay ws C).map dflt)]) - tot ws H = ki := by
        rw [tot_app]; simp [cost, hki]
      dsimp only at hc hl ⊢
      rw [ec] at hc; rw [es] at hl
      have hz := S.next
      obtain ⟨T', h', X', e', E, A, D, -, st'⟩ := newO X hx hZ hown (hw _ (rCls_mem q1)) (hw _ (rInst_mem hki)) (hw _ (hasInit_mem g.2)) rfl (g := fr (adr k sa n0) m pc ls st) rfl hd hc hl
      have hz' : h'.size = T.heap.size + 1 := by
        have u1 := X'.heapSize
        have a1 : (T.heap.size : Nat) < h'.size := A.lt
        rw [e'] at u1
        omega
      refine ⟨T', locs, by rw [ec, es]; exact X', ?_, N, ?_⟩
      · rw [e']
        refine S.push E hz' ⟨A, fun n t j q => ?_⟩
        have hm := fidx_mem q
        obtain ⟨q2, ty, q3⟩ := lay_mem hm
        refine ⟨dflt (n, t), by rw [List.getElem?_map, idx_get q]; rfl, ?_⟩
        have F := D (O := C) (nm := n) (d := t) (q2.imp (fun q => hw _ q) (fun q => hw _ q)) q3
        have e3 : ren (adr k sa n0) (dflt (n, t)) = defaultValue ty := by simp only [dflt, q3, ren_dflt]
        rw [e3]; exact F
      · intro target ht
        rw [hz] at st'
        exact st' target ht
    · cases hs
  · cases hs
theorem hNewA_sound (hw : ∀ d ∈ ws, d.before a0 Z = true) (X : Stand p l e R s m args below meth c T locs cells slots) (hx : p.tables.exec = Jvm.exec) (hZ : Z.Warmed39 s.vm)
    {aty : ArrayType} (hd : decode c.code pc = .ok (.newarray aty, 2)) {q : Nat × List Value × AHeap} (hs : hNewA ws aty pc H st = some q) (S : Sim Z ws k sa n0 H T.heap) (N : Fr n0 locs)
    (hc : cells + (q.2.2.length - H.length) ≤ R.cells) (hl : slots + (tot ws q.2.2 - tot ws H) ≤ R.slots) (hz0 : T.heap.size = s.heap.size + cells) :
    Beh p l e R s m args below meth c T Z ws k sa n0 cells slots H (fr (adr k sa n0) m pc ls st) q.1 ls q.2.1 q.2.2 := by
  unfold hNewA at hs
  split at hs
  · rename_i n r
    split at hs
    · rename_i g; cases hs
      obtain ⟨g1, g2, g3⟩ := g
      have ec : (H ++ [(FieldType.array (newarray.typeOf aty), List.replicate n.toNatClampNeg (defaultValue (newarray.typeOf aty)))]).length - H.length = 1 := by simp
      have es : tot ws (H ++ [(FieldType.array (newarray.typeOf aty), List.replicate n.toNatClampNeg (defaultValue (newarray.typeOf aty)))]) - tot ws H = n.toNatClampNeg := by
        rw [tot_app]; simp [cost]
      dsimp only at hc hl ⊢
      rw [ec] at hc; rw [es] at hl
      have hz := S.next
      obtain ⟨T', h', cA, X', e', E, A, st'⟩ := newP X hx hZ (hw _ (hasArr_mem g1)) rfl (g := fr (adr k sa n0) m pc ls (.int n :: r)) rfl hd rfl g2 (cap := n.toNatClampNeg) (Nat.le_refl _) g3 hc hl
      have hz' : h'.size = T.heap.size + 1 := by
        have u1 := X'.heapSize
        have a1 : (T.heap.size : Nat) < h'.size := A.lt
        rw [e'] at u1
        omega
      refine ⟨T', locs, by rw [ec, es]; exact X', ?_, N, ?_⟩
      · rw [e']
        refine S.push E hz' ⟨_, A, ?_⟩
        simp [newA, ren_dflt]
      · intro target ht
        rw [hz] at st'
        exact st' target ht
    · cases hs
  · cases hs
theorem hLd_some {ok : FieldType → Bool} {q : Nat × List Value × AHeap} (hs : hLd ok pc H st = some q) : ∃ j a r ty vs v, st = .int j :: .ref a :: r ∧ H[a]? = some (.array ty, vs) ∧ ok ty = true ∧ ¬ j < 0 ∧ vs[j.toNatClampNeg]? = some v ∧ q = (pc + 1, v :: r, H) := by
  unfold hLd at hs
  split at hs
  · split at hs
    · split at hs
      · rename_i g
        obtain ⟨v, h1, h2⟩ := Option.map_eq_some_iff.mp hs
        exact ⟨_, _, _, _, _, v, rfl, by assumption, g.1, g.2, h1, h2.symm⟩
      · cases hs
    · cases hs
  · cases hs
theorem hSt_some {ok : FieldType → Bool} {q : Nat × List Value × AHeap} (hs : hSt ok k pc H st = some q) : ∃ v j a r ty vs v', st = v :: .int j :: .ref a :: r ∧ H[a]? = some (.array ty, vs) ∧ ok ty = true ∧ k ≤ a ∧ ¬ j < 0 ∧ j.toNatClampNeg < vs.length ∧ putv ty v = some v' ∧ q = (pc + 1, r, H.set a (.array ty, vs.set j.toNatClampNeg v')) := by
  unfold hSt at hs
  split at hs
  · split at hs
    · split at hs
      · rename_i g
        obtain ⟨v, h1, h2⟩ := Option.map_eq_some_iff.mp hs
        exact ⟨_, _, _, _, _, _, v, rfl, by assumption, g.1, g.2.1, g.2.2.1, g.2.2.2, h1, h2.symm⟩
      · cases hs
    · cases hs
  · cases hs
theorem hLen_some {q : Nat × List Value × AHeap} (hs : hLen pc H st = some q) : ∃ a r ty vs, st = .ref a :: r ∧ H[a]? = some (.array ty, vs) ∧ q = (pc + 1, .int vs.length.toInt32 :: r, H) := by
  unfold hLen at hs
  split at hs
  · split at hs
    · cases hs; exact ⟨_, _, _, _, rfl, by assumption, rfl⟩
    · cases hs
  · cases hs
/-- behind a store into an array -/
theorem st_beh {T' : State} {h' : Heap} {a j : Nat} {ty : FieldType} {vs : List Value} {v' : Value} {r : List Value} {g : JFrame} (X' : Stand p l e R s m args below meth c T' (locs ++ [⟨adr k sa n0 a, j⟩]) cells slots) (e' : T'.heap = h') (W : Wr T.heap h' (adr k sa n0 a) j (ren (adr k sa n0) v'))
    (S : Sim Z ws k sa n0 H T.heap) (N : Fr n0 locs) (q2 : H[a]? = some (.array ty, vs)) (hk : k ≤ a)
    (st' : ∀ target, Steps p.tables e below (T'.setTop (fr (adr k sa n0) m (pc + 1) ls r)) target → Steps p.tables e below (T.setTop g) target) :
    Beh p l e R s m args below meth c T Z ws k sa n0 cells slots H g (pc + 1) ls r (H.set a (.array ty, vs.set j v')) := by
  obtain ⟨cl, A, es⟩ := S.2.2.2.2 a _ q2
  refine ⟨T', _, ?_, by rw [e']; exact Wr.upd S W ⟨_, A.same W, size_set cl j _ _ es rfl⟩, Fr.snoc X' N (adr_ge hk), st'⟩
  rw [List.length_set, tot_set (o := (.array ty, vs)) (o' := (.array ty, vs.set j v')) q2 (by simp [cost]), Nat.sub_self, Nat.sub_self]
  exact X'
set_option maxHeartbeats 1000000 in
theorem hstep_sound (hw : ∀ d ∈ ws, d.before a0 Z = true) (X : Stand p l e R s m args below meth c T locs cells slots) (hx : p.tables.exec = Jvm.exec) (hZ : Z.Warmed39 s.vm) (hown : s.vm.findClass y.cls = some m.cls) (hnm : meth.name = y.name)
    {ins : Instr} {len : Nat} (hd : decode c.code pc = .ok (ins, len)) {q : Nat × List Value × AHeap} (hs : hstep ws k y ins len pc st H = some q) (S : Sim Z ws k sa n0 H T.heap) (N : Fr n0 locs)
    (hc : cells + (q.2.2.length - H.length) ≤ R.cells) (hl : slots + (tot ws q.2.2 - tot ws H) ≤ R.slots) (hz0 : T.heap.size = s.heap.size + cells) :
    Beh p l e R s m args below meth c T Z ws k sa n0 cells slots H (fr (adr k sa n0) m pc ls st) q.1 ls q.2.1 q.2.2 := by
  unfold hstep at hs
  split at hs
  · obtain ⟨rfl, hs⟩ := chk_some hs
    exact hGet_sound hw X hx hZ hown hd hs S N
  · obtain ⟨rfl, hs⟩ := chk_some hs
    exact hPut_sound hw X hx hZ hown hnm hd hs S N
  · obtain ⟨rfl, hs⟩ := chk_some hs
    exact hNew_sound hw X hx hZ hown hd hs S N hc hl hz0
  · obtain ⟨rfl, hs⟩ := chk_some hs
    exact hNewA_sound hw X hx hZ hd hs S N hc hl hz0
  · obtain ⟨rfl, hs⟩ := chk_some hs
    obtain ⟨j, a, r, ty, vs, v, rfl, q2, ho, hj, hv, rfl⟩ := hLd_some hs
    obtain rfl : ty = _ := of_decide_eq_true ho
    obtain ⟨cl, A, es⟩ := S.2.2.2.2 a _ q2
    have hlt := (List.getElem?_eq_some_iff.mp hv).1
    exact Beh.stay X S N fun target ht => X.iaload hx (j := j) (v := ren (adr k sa n0) v) A.1 (State.isArrayOf_alike hZ.alike A.2.1) A.2.2 (fun g => g.elim hj fun g => by rw [es] at g; simp at g; omega) (by rw [es, List.getElem?_toArray, List.getElem?_map, hv]; rfl) (g := fr (adr k sa n0) m pc ls (.int j :: .ref a :: r)) rfl rfl hd target ht
  · obtain ⟨rfl, hs⟩ := chk_some hs
    obtain ⟨j, a, r, ty, vs, v, rfl, q2, ho, hj, hv, rfl⟩ := hLd_some hs
    obtain rfl : ty = _ := of_decide_eq_true ho
    obtain ⟨cl, A, es⟩ := S.2.2.2.2 a _ q2
    have hlt := (List.getElem?_eq_some_iff.mp hv).1
    exact Beh.stay X S N fun target ht => X.caload hx (j := j) (v := ren (adr k sa n0) v) A.1 (State.isArrayOf_alike hZ.alike A.2.1) A.2.2 (fun g => g.elim hj fun g => by rw [es] at g; simp at g; omega) (by rw [es, List.getElem?_toArray, List.getElem?_map, hv]; rfl) (g := fr (adr k sa n0) m pc ls (.int j :: .ref a :: r)) rfl rfl hd target ht
  · obtain ⟨rfl, hs⟩ := chk_some hs
    obtain ⟨j, a, r, ty, vs, v, rfl, q2, ho, hj, hv, rfl⟩ := hLd_some hs
    obtain rfl : ty = _ := of_decide_eq_true ho
    obtain ⟨cl, A, es⟩ := S.2.2.2.2 a _ q2
    have hlt := (List.getElem?_eq_some_iff.mp hv).1
    exact Beh.stay X S N fun target ht => X.laload hx (j := j) (v := ren (adr k sa n0) v) A.1 (State.isArrayOf_alike hZ.alike A.2.1) A.2.2 (fun g => g.elim hj fun g => by rw [es] at g; simp at g; omega) (by rw [es, List.getElem?_toArray, List.getElem?_map, hv]; rfl) (g := fr (adr k sa n0) m pc ls (.int j :: .ref a :: r)) rfl rfl hd target ht
  · obtain ⟨rfl, hs⟩ := chk_some hs
    obtain ⟨j, a, r, ty, vs, v, rfl, q2, ho, hj, hv, rfl⟩ := hLd_some hs
    obtain ⟨cl, A, es⟩ := S.2.2.2.2 a _ q2
    have hlt := (List.getElem?_eq_some_iff.mp hv).1
    simp only [okB, Bool.or_eq_true, decide_eq_true_eq] at ho
    rcases ho with rfl | rfl
    · exact Beh.stay X S N fun target ht => X.baloadBytes hx (j := j) (v := ren (adr k sa n0) v) A.1 (State.isArrayOf_alike hZ.alike A.2.1) A.2.2 (fun g => g.elim hj fun g => by rw [es] at g; simp at g; omega) (by rw [es, List.getElem?_toArray, List.getElem?_map, hv]; rfl) (g := fr (adr k sa n0) m pc ls (.int j :: .ref a :: r)) rfl rfl hd target ht
    · exact Beh.stay X S N fun target ht => X.baloadBooleans hx (j := j) (v := ren (adr k sa n0) v) A.1 (State.isArrayOf_alike hZ.alike A.2.1) A.2.2 (fun g => g.elim hj fun g => by rw [es] at g; simp at g; omega) (by rw [es, List.getElem?_toArray, List.getElem?_map, hv]; rfl) (g := fr (adr k sa n0) m pc ls (.int j :: .ref a :: r)) rfl rfl hd target ht
  · obtain ⟨rfl, hs⟩ := chk_some hs
    obtain ⟨v, j, a, r, ty, vs, v', rfl, q2, ho, hk, hj, hlt, hv, rfl⟩ := hSt_some hs
    obtain rfl : ty = _ := of_decide_eq_true ho
    obtain ⟨cl, A, es⟩ := S.2.2.2.2 a _ q2
    cases v <;> simp only [putv, Option.some.injEq, reduceCtorEq] at hv
    subst hv
    obtain ⟨T', h', X', e', W, st'⟩ := stI X hx hZ rfl A (j := j) (fun g => g.elim hj fun g => by rw [es] at g; simp at g; omega) (g := fr (adr k sa n0) m pc ls (.int _ :: .int j :: .ref a :: r)) rfl rfl hd
    exact st_beh X' e' W S N q2 hk st'
  · obtain ⟨rfl, hs⟩ := chk_some hs
    obtain ⟨v, j, a, r, ty, vs, v', rfl, q2, ho, hk, hj, hlt, hv, rfl⟩ := hSt_some hs
    obtain rfl : ty = _ := of_decide_eq_true ho
    obtain ⟨cl, A, es⟩ := S.2.2.2.2 a _ q2
    cases v <;> simp only [putv, Option.some.injEq, reduceCtorEq] at hv
    subst hv
    obtain ⟨T', h', X', e', W, st'⟩ := stC X hx hZ rfl A (j := j) (fun g => g.elim hj fun g => by rw [es] at g; simp at g; omega) (g := fr (adr k sa n0) m pc ls (.int _ :: .int j :: .ref a :: r)) rfl rfl hd
    exact st_beh X' e' W S N q2 hk st'
  · obtain ⟨rfl, hs⟩ := chk_some hs
    obtain ⟨v, j, a, r, ty, vs, v', rfl, q2, ho, hk, hj, hlt, hv, rfl⟩ := hSt_some hs
    obtain rfl : ty = _ := of_decide_eq_true ho
    obtain ⟨cl, A, es⟩ := S.2.2.2.2 a _ q2
    cases v <;> simp only [putv, Option.some.injEq, reduceCtorEq] at hv
    subst hv
    obtain ⟨T', h', X', e', W, st'⟩ := stJ X hx hZ rfl A (j := j) (fun g => g.elim hj fun g => by rw [es] at g; simp at g; omega) (g := fr (adr k sa n0) m pc ls (.long _ :: .int j :: .ref a :: r)) rfl rfl hd
    exact st_beh X' e' W S N q2 hk st'
  · obtain ⟨rfl, hs⟩ := chk_some hs
    obtain ⟨v, j, a, r, ty, vs, v', rfl, q2, ho, hk, hj, hlt, hv, rfl⟩ := hSt_some hs
    obtain ⟨cl, A, es⟩ := S.2.2.2.2 a _ q2
    simp only [okB, Bool.or_eq_true, decide_eq_true_eq] at ho
    rcases ho with rfl | rfl
    · cases v <;> simp only [putv, Option.some.injEq, reduceCtorEq] at hv
      subst hv
      obtain ⟨T', h', X', e', W, st'⟩ := stB X hx hZ rfl A (j := j) (fun g => g.elim hj fun g => by rw [es] at g; simp at g; omega) (g := fr (adr k sa n0) m pc ls (.int _ :: .int j :: .ref a :: r)) rfl rfl hd
      exact st_beh X' e' W S N q2 hk st'
    · cases v <;> simp only [putv, Option.some.injEq, reduceCtorEq] at hv
      subst hv
      obtain ⟨T', h', X', e', W, st'⟩ := stZ X hx hZ rfl A (j := j) (fun g => g.elim hj fun g => by rw [es] at g; simp at g; omega) (g := fr (adr k sa n0) m pc ls (.int _ :: .int j :: .ref a :: r)) rfl rfl hd
      exact st_beh X' e' W S N q2 hk st'
  · obtain ⟨rfl, hs⟩ := chk_some hs
    obtain ⟨a, r, ty, vs, rfl, q2, rfl⟩ := hLen_some hs
    obtain ⟨cl, A, es⟩ := S.2.2.2.2 a _ q2
    have ez : cl.slots.size = vs.length := by rw [es]; simp
    refine Beh.stay X S N fun target ht => X.arraylength hx (cell := cl) A.1 (State.isArrayOf_alike hZ.alike A.2.1) (g := fr (adr k sa n0) m pc ls (.ref a :: r)) rfl rfl hd target ?_
    rw [ez]; exact ht
  · obtain ⟨rfl, hs⟩ := chk_some hs
    obtain ⟨v, hv, rfl⟩ := Option.map_eq_some_iff.mp hs
    exact Beh.stay X S N (X.ldcInt hx hown (mvT hZ (hw _ (rCon_mem hv))) (g := fr (adr k sa n0) m pc ls st) rfl hd)
  · obtain ⟨rfl, hs⟩ := chk_some hs
    obtain ⟨v, hv, rfl⟩ := Option.map_eq_some_iff.mp hs
    exact Beh.stay X S N (X.ldcwInt hx hown (mvT hZ (hw _ (rCon_mem hv))) (g := fr (adr k sa n0) m pc ls st) rfl hd)
  · obtain ⟨rfl, hs⟩ := chk_some hs
    obtain ⟨v, hv, rfl⟩ := Option.map_eq_some_iff.mp hs
    exact Beh.stay X S N (X.ldc2Long hx hown (mvT hZ (hw _ (rConL_mem hv))) (g := fr (adr k sa n0) m pc ls st) rfl hd)
  · cases hs
end H
theorem hstep_size {ws : Ws} {k : Nat} {y : MethodName} {ins : Instr} {len pc : Nat} {st : List Value} {H : AHeap} {q : Nat × List Value × AHeap} (hs : hstep ws k y ins len pc st H = some q) : H.length ≤ q.2.2.length ∧ tot ws H ≤ tot ws q.2.2 := by
  unfold hstep at hs
  split at hs
  · obtain ⟨rfl, hs⟩ := chk_some hs
    unfold hGet at hs
    split at hs
    · split at hs
      · split at hs
        · obtain ⟨v, -, rfl⟩ := Option.map_eq_some_iff.mp hs; exact ⟨Nat.le_refl _, Nat.le_refl _⟩
        · cases hs
      · cases hs
    · cases hs
  · obtain ⟨rfl, hs⟩ := chk_some hs
    unfold hPut at hs
    split at hs
    · split at hs
      · rename_i C j ty C' vs q1 q2
        split at hs
        · obtain ⟨v, -, rfl⟩ := Option.map_eq_some_iff.mp hs
          exact ⟨Nat.le_of_eq (by rw [List.length_set]), Nat.le_of_eq (tot_set (o := (.object C', vs)) (o' := (.object C', vs.set j v)) q2 rfl).symm⟩
        · cases hs
      · cases hs
    · cases hs
  · obtain ⟨rfl, hs⟩ := chk_some hs
    unfold hNew at hs
    split at hs
    · split at hs
      · cases hs; exact ⟨by simp, by rw [tot_app]; omega⟩
      · cases hs
    · cases hs
  · obtain ⟨rfl, hs⟩ := chk_some hs
    unfold hNewA at hs
    split at hs
    · split at hs
      · cases hs; exact ⟨by simp, by rw [tot_app]; omega⟩
      · cases hs
    · cases hs
  all_goals first
    | (obtain ⟨rfl, hs⟩ := chk_some hs; obtain ⟨j, a, r, ty, vs, v, rfl, q2, ho, hj, hv, rfl⟩ := hLd_some hs; exact ⟨Nat.le_refl _, Nat.le_refl _⟩)
    | (obtain ⟨rfl, hs⟩ := chk_some hs; obtain ⟨v, j, a, r, ty, vs, v', rfl, q2, ho, hk, hj, hlt, hv, rfl⟩ := hSt_some hs; exact ⟨Nat.le_of_eq (by rw [List.length_set]), Nat.le_of_eq (tot_set (o := (.array ty, vs)) (o' := (.array ty, vs.set _ v')) q2 (by simp [cost])).symm⟩)
    | (obtain ⟨rfl, hs⟩ := chk_some hs; obtain ⟨a, r, ty, vs, rfl, q2, rfl⟩ := hLen_some hs; exact ⟨Nat.le_refl _, Nat.le_refl _⟩)
    | (obtain ⟨rfl, hs⟩ := chk_some hs; obtain ⟨v, hv, rfl⟩ := Option.map_eq_some_iff.mp hs; exact ⟨Nat.le_refl _, Nat.le_refl _⟩)
    | (cases hs; done)
end Jvm.Own
namespace Jvm.Own
open Sem ClassFile Op Lib Jvm.Stand Jvm.Free Jvm.LawKit Jvm.RoadKit
/-! OWN 5: the run is the machine's -/
theorem ent_ren (f : Nat → Nat) : ∀ as : List Value, ent (as.map (ren f)) = (ent as).map (renS f)
  | [] => rfl
  | v :: r => by
    simp only [List.map_cons, ent, ren_cat, ent_ren f r]
    split <;> rfl
theorem fill_eq : ∀ (as : List Value) (acc : Array Slot), as.foldl (fun acc v => if v.category = 2 then (acc.push (.val v)).push .second else acc.push (.val v)) acc = acc ++ (ent as).toArray
  | [], acc => by simp [ent]
  | v :: r, acc => by
    simp only [List.foldl_cons, ent]
    split
    · rw [fill_eq r]; simp [← Array.toList_inj]
    · rw [fill_eq r]; simp [← Array.toList_inj]
theorem entry_eq (f : Nat → Nat) (m : MethodId) (as : List Value) (mx : Nat) : entryFrame m (as.map (ren f)).toArray mx = fr f m 0 (entry as mx) [] := by
  have h : argsToLocals (as.map (ren f)).toArray mx = ((entry as mx).map (renS f)).toArray := by
    unfold argsToLocals entry
    simp only [List.foldl_toArray']
    rw [fill_eq, ent_ren]
    simp [← Array.toList_inj, renS]
  unfold entryFrame
  rw [h]; rfl
theorem entry_len {as : List Value} {mx : Nat} (h : (ent as).length ≤ mx) : (entry as mx).length = mx := by simp [entry]; omega
theorem wsum_ren (f : Nat → Nat) (st : List Value) : ((st.map (ren f)).map fun v => v.category).sum = wsum st := by
  unfold wsum
  rw [List.map_map]
  congr 1
  apply List.map_congr_left
  intro v _
  exact ren_cat f v
section Inv
variable {ws : Ws} {dn : Dn} {k : Nat} {y : MethodName} {bytes : ByteArray} {ret : Option FieldType} {pc : Nat} {ls : List Slot} {st : List Value} {H : AHeap}
theorem cR_some {i : Nat} {y' : MethodName} {b : ByteArray} {mx na sl : Nat} {r : Option FieldType} (h : cR ws dn y i = some (y', b, mx, r, na, sl)) :
    Jvm.Cond.methodLink y.cls i y' ∈ ws ∧ Jvm.Cond.code y' b mx r ∈ ws ∧ Jvm.Cond.initialized y'.cls ∈ ws ∧ Jvm.plainName y'.cls = true ∧ (y'.cls ≠ "java/lang/invoke/MethodHandle" ∧ y'.cls ≠ "java/lang/invoke/VarHandle") ∧ rCode ws y' = some (b, mx, r) ∧
    ∃ f' l' f l sig, dnOf dn y' = some (f', l') ∧ dnOf dn y = some (f, l) ∧ parseMethodDescriptor y'.desc = some sig ∧ na = sig.parameters.length ∧ f' + 1 ≤ f ∧ sl + (mx + 11) + l' ≤ l := by
  unfold cR at h
  split at h
  · cases h
  · rename_i z q1
    split at h
    · rename_i b' mx' r' f' l' f l sig q2 q3 q4 q5
      split at h
      · rename_i g
        cases h
        obtain ⟨g1, g2, g3, g4, g5, g6⟩ := g
        exact ⟨rMth_mem q1, rCode_mem q2, hasInit_mem g1, g2, ⟨g3, g4⟩, q2, f', l', f, l, sig, q3, q4, q5, rfl, g5, by omega⟩
      · cases h
    · cases h
theorem act_ret {v : Option Value} (h : act ws dn k y bytes ret pc ls st H = some (.inl v)) : (∃ z r t, decode bytes pc = .ok (.ireturn, 1) ∧ st = .int z :: r ∧ ret = some t ∧ (t = .int ∨ t = .boolean ∨ t = .byte ∨ t = .char ∨ t = .short) ∧ v = some (.int (nar t z))) ∨
    (∃ z, decode bytes pc = .ok (.lreturn, 1) ∧ st = [.long z] ∧ ret = some .long ∧ v = some (.long z)) ∨ (decode bytes pc = .ok (.return_, 1) ∧ st = [] ∧ ret = none ∧ v = none) := by
  unfold act at h
  split at h
  · cases h
  rename_i ins len hd
  split at h
  · cases h
  split at h
  · cases h
  unfold cstep at h
  split at h
  · obtain ⟨rfl, h⟩ := chk_some h
    split at h
    · split at h
      · rename_i g; cases h; exact Or.inl ⟨_, _, _, hd, rfl, rfl, g, rfl⟩
      · cases h
    · cases h
  · obtain ⟨rfl, h⟩ := chk_some h
    split at h
    · cases h; exact Or.inr (Or.inl ⟨_, hd, rfl, rfl, rfl⟩)
    · cases h
  · obtain ⟨rfl, h⟩ := chk_some h
    split at h
    · cases h; exact Or.inr (Or.inr ⟨hd, rfl, rfl, rfl⟩)
    · cases h
  · obtain ⟨rfl, h⟩ := chk_some h
    split at h
    · split at h <;> cases h
    · cases h
  · obtain ⟨rfl, h⟩ := chk_some h
    split at h
    · split at h
      · split at h <;> cases h
      · cases h
    · split at h
      · split at h
        · split at h <;> cases h
        · cases h
      · cases h
  · obtain ⟨rfl, h⟩ := chk_some h
    split at h
    · split at h
      · split at h
        · split at h <;> cases h
        · cases h
      · cases h
    · cases h
  · cases h
theorem act_step {pc' : Nat} {ls' : List Slot} {st' : List Value} {H' : AHeap} (h : act ws dn k y bytes ret pc ls st H = some (.inr (.inl (pc', ls', st', H')))) : ∃ ins len, decode bytes pc = .ok (ins, len) ∧
    ((xstep ins len pc ls st = some (pc', ls', st') ∧ H' = H) ∨ (ls' = ls ∧ hstep ws k y ins len pc st H = some (pc', st', H')) ∨
     (∃ i sl a r, ins = .invokespecial i ∧ len = 3 ∧ oR ws dn y i = some sl ∧ st = .ref a :: r ∧ wsum r ≤ sl ∧ pc' = pc + 3 ∧ ls' = ls ∧ st' = r ∧ H' = H)) := by
  unfold act at h
  split at h
  · cases h
  rename_i ins len hd
  refine ⟨ins, len, hd, ?_⟩
  split at h
  · rename_i g; cases h; exact Or.inl ⟨g, rfl⟩
  split at h
  · rename_i g; cases h; exact Or.inr (Or.inl ⟨rfl, g⟩)
  unfold cstep at h
  split at h
  · obtain ⟨rfl, h⟩ := chk_some h
    split at h
    · split at h <;> cases h
    · cases h
  · obtain ⟨rfl, h⟩ := chk_some h
    split at h <;> cases h
  · obtain ⟨rfl, h⟩ := chk_some h
    split at h <;> cases h
  · obtain ⟨rfl, h⟩ := chk_some h
    split at h
    · split at h <;> cases h
    · cases h
  · obtain ⟨rfl, h⟩ := chk_some h
    split at h
    · rename_i sl ho
      split at h
      · split at h
        · rename_i g; cases h; exact Or.inr (Or.inr ⟨_, sl, _, _, rfl, rfl, ho, rfl, g, rfl, rfl, rfl, rfl⟩)
        · cases h
      · cases h
    · split at h
      · split at h
        · split at h <;> cases h
        · cases h
      · cases h
  · obtain ⟨rfl, h⟩ := chk_some h
    split at h
    · split at h
      · split at h
        · split at h <;> cases h
        · cases h
      · cases h
    · cases h
  · cases h
/-- the three kinds of call -/
theorem act_call {y' : MethodName} {b : ByteArray} {r : Option FieldType} {en : List Slot} {rest : List Value} (h : act ws dn k y bytes ret pc ls st H = some (.inr (.inr (y', b, r, en, rest)))) : ∃ i mx na sl as, cR ws dn y i = some (y', b, mx, r, na, sl) ∧ en = entry as mx ∧ (ent as).length ≤ mx ∧ wsum rest ≤ sl ∧
    ((decode bytes pc = .ok (.invokestatic i, 3) ∧ Jvm.Cond.static y' ∈ ws ∧ as.length = na ∧ st = as.reverse ++ rest) ∨
     (∃ a as', as = .ref a :: as' ∧ as'.length = na ∧ st = as'.reverse ++ .ref a :: rest ∧ Jvm.Cond.instanceMethod y' ∈ ws ∧
      ((decode bytes pc = .ok (.invokespecial i, 3) ∧ y'.name = "<init>" ∧ r = none) ∨
       (decode bytes pc = .ok (.invokevirtual i, 3) ∧ ∃ C vs, H[a]? = some (.object C, vs) ∧ ((Jvm.Cond.privateMethod y' ∈ ws ∧ ∃ ki, Jvm.Cond.instantiable y'.cls ki ∈ ws) ∨ (Jvm.Cond.declares y' ∈ ws ∧ Jvm.Cond.selects y'.cls y' y' ∈ ws ∧ C = y'.cls)))))) := by
  unfold act at h
  split at h
  · cases h
  rename_i ins len hd
  split at h
  · cases h
  split at h
  · cases h
  unfold cstep at h
  split at h
  · obtain ⟨rfl, h⟩ := chk_some h
    split at h
    · split at h <;> cases h
    · cases h
  · obtain ⟨rfl, h⟩ := chk_some h
    split at h <;> cases h
  · obtain ⟨rfl, h⟩ := chk_some h
    split at h <;> cases h
  · rename_i i _ _
    obtain ⟨rfl, h⟩ := chk_some h
    split at h
    · rename_i y1 b1 mx r1 na sl hq
      split at h
      · rename_i g
        cases h
        unfold sR at hq
        split at hq
        · rename_i q hc
          split at hq
          · rename_i hs
            cases hq
            refine ⟨i, mx, na, sl, _, hc, rfl, g.2.2, g.2.1, Or.inl ⟨hd, hasStat_mem hs, by simp; omega, by simp⟩⟩
          · cases hq
        · cases hq
      · cases h
    · cases h
  · rename_i i _ _
    obtain ⟨rfl, h⟩ := chk_some h
    split at h
    · split at h
      · split at h <;> cases h
      · cases h
    · split at h
      · rename_i y1 b1 mx r1 na sl hq
        split at h
        · rename_i a rest' hdrop
          split at h
          · rename_i g
            cases h
            unfold nR at hq
            split at hq
            · rename_i q hc
              split at hq
              · rename_i hs
                cases hq
                refine ⟨i, mx, na, sl, _, hc, rfl, g.2.1, g.1, Or.inr ⟨a, _, rfl, by simp; omega, ?_, hasIM_mem hs.2.1, Or.inl ⟨hd, hs.1, hs.2.2⟩⟩⟩
                rw [List.reverse_reverse, ← hdrop, List.take_append_drop]
              · cases hq
            · cases hq
          · cases h
        · cases h
      · cases h
  · rename_i i _ _
    obtain ⟨rfl, h⟩ := chk_some h
    split at h
    · rename_i pv y1 b1 mx r1 na sl hq
      split at h
      · rename_i a rest' hdrop
        split at h
        · rename_i C vs hH
          split at h
          · rename_i g
            cases h
            unfold vR at hq
            split at hq
            · rename_i q hc
              split at hq
              · rename_i hs
                split at hq
                · rename_i hp; cases hq
                  obtain ⟨ki, hki⟩ := Option.isSome_iff_exists.mp hp.2
                  exact ⟨i, mx, na, sl, _, hc, rfl, g.2.2.1, g.2.1, Or.inr ⟨a, _, rfl, by simp; omega, by rw [List.reverse_reverse, ← hdrop, List.take_append_drop], hasIM_mem hs, Or.inr ⟨hd, C, vs, hH, Or.inl ⟨hasPriv_mem hp.1, ki, rInst_mem hki⟩⟩⟩⟩
                · split at hq
                  · rename_i hp; cases hq
                    exact ⟨i, mx, na, sl, _, hc, rfl, g.2.2.1, g.2.1, Or.inr ⟨a, _, rfl, by simp; omega, by rw [List.reverse_reverse, ← hdrop, List.take_append_drop], hasIM_mem hs, Or.inr ⟨hd, C, vs, hH, Or.inr ⟨hasDecl_mem hp.1, hasSel_mem hp.2, g.1.resolve_left (by simp)⟩⟩⟩⟩
                  · cases hq
              · cases hq
            · cases hq
          · cases h
        · cases h
      · cases h
    · cases h
  · cases h
theorem act_size {pc' : Nat} {ls' : List Slot} {st' : List Value} {H' : AHeap} (h : act ws dn k y bytes ret pc ls st H = some (.inr (.inl (pc', ls', st', H')))) : H.length ≤ H'.length ∧ tot ws H ≤ tot ws H' ∧ ls'.length = ls.length := by
  obtain ⟨ins, len, hd, ⟨g, rfl⟩ | ⟨rfl, g⟩ | ⟨i, sl, a, r, -, -, -, -, -, -, rfl, -, rfl⟩⟩ := act_step h
  · exact ⟨Nat.le_refl _, Nat.le_refl _, xstep_size g⟩
  · have := hstep_size g; exact ⟨this.1, this.2, rfl⟩
  · exact ⟨Nat.le_refl _, Nat.le_refl _, rfl⟩
end Inv
theorem run_size {ws : Ws} {dn : Dn} {k : Nat} : ∀ {n : Nat} {y : MethodName} {bytes : ByteArray} {ret : Option FieldType} {pc : Nat} {ls : List Slot} {st : List Value} {H : AHeap} {v : Option Value} {H' : AHeap}, run ws dn k n y bytes ret pc ls st H = some (v, H') → H.length ≤ H'.length ∧ tot ws H ≤ tot ws H'
  | 0, _, _, _, _, _, _, _, _, _, h => by cases h
  | n + 1, y, bytes, ret, pc, ls, st, H, v, H', h => by
    rw [run] at h
    split at h
    · cases h
    · cases h; exact ⟨Nat.le_refl _, Nat.le_refl _⟩
    · rename_i g
      have h1 := run_size h
      have h2 := act_size g
      exact ⟨Nat.le_trans h2.1 h1.1, Nat.le_trans h2.2.1 h1.2⟩
    · split at h
      · rename_i g
        have h1 := run_size h
        have h2 := run_size g
        exact ⟨Nat.le_trans h2.1 h1.1, Nat.le_trans h2.2 h1.2⟩
      · cases h
section Snd
/-- from here on the machine comes to a return of v with the heap H' -/
def Goes (p : Program) (l : Launch) (e : Env) (R : Room) (s : State) (m : MethodId) (args : Array Value) (below : List Frame) (meth : Method) (c : Code) (T : State) (Z : State) (ws : Ws) (k sa n0 cells slots : Nat) (H : AHeap) (g : JFrame) (ret : Option FieldType) (v : Option Value) (H' : AHeap) : Prop :=
  ∃ T' locs', Stand p l e R s m args below meth c T' locs' (cells + (H'.length - H.length)) (slots + (tot ws H' - tot ws H)) ∧ Sim Z ws k sa n0 H' T'.heap ∧ Fr n0 locs' ∧ (ret = none → v = none) ∧
    ∀ fs, (∀ (fj : JFrame) (acts : List Action), fj.method = m → fj.locked = none → fj.entered = [] → (doReturn e (T'.setTop fj) acts (v.map (ren (adr k sa n0)))).1 = T'.setFrames fs) → Steps p.tables e below (T.setTop g) (T'.setFrames fs)
variable {p : Program} {l : Launch} {e : Env} {R : Room} {s : State} {m : MethodId} {args : Array Value} {below : List Frame} {meth : Method} {c : Code} {T : State} {locs : List Loc} {cells slots : Nat}
  {Z : State} {a0 : Array Value} {ws : Ws} {dn : Dn} {k sa n0 : Nat}
theorem Goes.of {T1 : State} {H H1 H' : AHeap} {g g1 : JFrame} {ret : Option FieldType} {v : Option Value} (hst : ∀ target, Steps p.tables e below (T1.setTop g1) target → Steps p.tables e below (T.setTop g) target)
    (G : Goes p l e R s m args below meth c T1 Z ws k sa n0 (cells + (H1.length - H.length)) (slots + (tot ws H1 - tot ws H)) H1 g1 ret v H') (m1 : H.length ≤ H1.length ∧ tot ws H ≤ tot ws H1) (m2 : H1.length ≤ H'.length ∧ tot ws H1 ≤ tot ws H') :
    Goes p l e R s m args below meth c T Z ws k sa n0 cells slots H g ret v H' := by
  obtain ⟨T', locs', X', S', N', hv, go⟩ := G
  have e1 : cells + (H1.length - H.length) + (H'.length - H1.length) = cells + (H'.length - H.length) := by omega
  have e2 : slots + (tot ws H1 - tot ws H) + (tot ws H' - tot ws H1) = slots + (tot ws H' - tot ws H) := by omega
  rw [e1, e2] at X'
  exact ⟨T', locs', X', S', N', hv, fun fs hf => hst _ (go fs hf)⟩
def Snd (Z : State) (ws : Ws) (dn : Dn) (k sa n0 n : Nat) : Prop :=
  ∀ (y : MethodName) (bytes : ByteArray) (ret : Option FieldType) (pc : Nat) (ls : List Slot) (st : List Value) (H : AHeap) (v : Option Value) (H' : AHeap), run ws dn k n y bytes ret pc ls st H = some (v, H') →
  ∀ (p : Program) (l : Launch) (e : Env) (R : Room) (s : State) (m : MethodId) (args : Array Value) (below : List Frame) (meth : Method) (c : Code) (T : State) (locs : List Loc) (cells slots : Nat),
    Stand p l e R s m args below meth c T locs cells slots → p.tables.exec = Jvm.exec → Z.Warmed39 s.vm → s.vm.findClass y.cls = some m.cls → meth.name = y.name → meth.sig.returnType = ret → c.code = bytes → ls.length = c.maxLocals →
    (∀ f lc, dnOf dn y = some (f, lc) → f ≤ R.frames ∧ lc ≤ R.locals) → Sim Z ws k sa n0 H T.heap → Fr n0 locs → cells + (H'.length - H.length) ≤ R.cells → slots + (tot ws H' - tot ws H) ≤ R.slots → T.heap.size = s.heap.size + cells →
    Goes p l e R s m args below meth c T Z ws k sa n0 cells slots H (fr (adr k sa n0) m pc ls st) ret v H'
theorem met_of {n : Nat} (ih : Snd Z ws dn k sa n0 n) (l : Launch) {y : MethodName} {b : ByteArray} {mx f lc : Nat} {r : Option FieldType} (wsx : List Jvm.Cond) (hp : Jvm.plainName y.cls = true) {as : List Value} (he : (ent as).length ≤ mx) {H H1 : AHeap} {v : Option Value}
    (hrun : run ws dn k n y b r 0 (entry as mx) [] H = some (v, H1)) (hdn : ∀ f' l', dnOf dn y = some (f', l') → f' ≤ f ∧ l' ≤ lc) {h : Heap} (S : Sim Z ws k sa n0 H h) {rc rs : Nat} (hc : H1.length - H.length ≤ rc) (hs : tot ws H1 - tot ws H ≤ rs) :
    MetFree l y (head1 (Jvm.Cond.code y b mx r :: wsx) ({ frames := f, cells := rc, slots := rs, locals := lc } : Room)) (fun a U => a = (as.map (ren (adr k sa n0))).toArray ∧ Z.Warmed39 U.vm ∧ U.heap = h) (fun _ _ _ _ _ => True)
      (fun _ U o U' => ∃ w L, o = .returned w ∧ (w = v.map (ren (adr k sa n0)) ∧ Sim Z ws k sa n0 H1 U'.heap ∧ Fr n0 L) ∧ FrameEnd U o U' L (H1.length - H.length) (tot ws H1 - tot ws H)) := by
  refine MetFree.of_bodySF (plainFor_of_name hp) hisR ?_
  intro p e s m args below meth c s₁ Bd hml0 hP hK
  obtain ⟨rfl, hZ, hh⟩ := hP
  have hown : s.vm.findClass y.cls = some m.cls := findClass_of_methodNamed Bd.named
  have hnm := (name_of_methodNamed Bd.named Bd.method).1
  have X0 : Stand p l e ({ frames := f, cells := rc, slots := rs, locals := lc } : Room) s m (as.map (ren (adr k sa n0))).toArray below meth c s₁ [] 0 0 := Stand.of_body Bd
  have e0 : s₁.heap = h := by rw [← hh, Bd.state]; rfl
  obtain ⟨T', locs', X', S', N', hv, go⟩ := ih y b r 0 (entry as mx) [] H v H1 hrun p l e _ s m _ below meth c s₁ [] 0 0 X0 Bd.exec hZ hown hnm Bd.returns Bd.bytes (by rw [entry_len he]; exact hml0.symm) hdn (by rw [e0]; exact S) (Fr.nil n0) (by rw [Nat.zero_add]; exact hc) (by rw [Nat.zero_add]; exact hs) (by rw [e0, ← hh, Nat.add_zero])
  obtain ⟨fs, hr, hrun', hended, hW, hsame⟩ := X'.leave (v := v.map (ren (adr k sa n0))) (fun hn => by rw [Bd.returns] at hn; rw [hv hn]; rfl)
  refine ⟨_, _, castTop (entry_eq _ m as mx) (go fs hr), hrun', hended, _, locs', rfl, ⟨rfl, S', N'⟩, ⟨_, rfl⟩, hW, hsame.mono (Nat.le_of_eq (Nat.zero_add _)) (Nat.le_of_eq (Nat.zero_add _))⟩
set_option maxHeartbeats 2000000 in
theorem snd (hw : ∀ d ∈ ws, d.before a0 Z = true) : ∀ n, Snd Z ws dn k sa n0 n
  | 0 => fun y bytes ret pc ls st H v H' h => by cases h
  | n + 1 => fun y bytes ret pc ls st H v H' h p l e R s m args below meth c T locs cells slots X hx hZ hown hnm hret hby hls hF S N hc hl hz0 => by
    have ih := snd hw n
    rw [run] at h
    split at h
    · cases h
    · rename_i v' ha
      cases h
      have stay : ∀ {v : Option Value}, (ret = none → v = none) → (∀ fs, (∀ (fj : JFrame) (acts : List Action), fj.method = m → fj.locked = none → fj.entered = [] → (doReturn e (T.setTop fj) acts (v.map (ren (adr k sa n0)))).1 = T.setFrames fs) → Steps p.tables e below (T.setTop (fr (adr k sa n0) m pc ls st)) (T.setFrames fs)) →
          Goes p l e R s m args below meth c T Z ws k sa n0 cells slots H (fr (adr k sa n0) m pc ls st) ret v H := fun hv hg => ⟨T, locs, by rw [Nat.sub_self, Nat.sub_self]; exact X, S, N, hv, hg⟩
      rcases act_ret ha with ⟨z, r, t, hd, rfl, rfl, ht, rfl⟩ | ⟨z, hd, rfl, rfl, rfl⟩ | ⟨hd, rfl, rfl, rfl⟩
      · refine stay (fun h => by cases h) fun fs hf => ?_
        rcases ht with rfl | ht
        · exact retOut X hx hret (w := .int z) (rest := r.map (ren (adr k sa n0))) rfl (Or.inl ⟨rfl, Or.inl rfl, z, rfl⟩) (hb hby hd) hf
        · exact retN X hx hret ht (hb hby hd) hf
      · exact stay (fun h => by cases h) fun fs hf => retOut X hx hret (w := .long z) (rest := []) rfl (Or.inr (Or.inl ⟨rfl, rfl, z, rfl⟩)) (hb hby hd) hf
      · exact stay (fun _ => rfl) fun fs hf => X.returnOut hx hret (hb hby hd) hf
    · rename_i pc' ls' st' H1 ha
      have m1 := act_size ha
      have m2 := run_size h
      obtain ⟨ins, len, hd, ⟨g, rfl⟩ | ⟨rfl, g⟩ | ⟨i, sl, a, r, rfl, rfl, ho, rfl, hW, rfl, rfl, rfl, rfl⟩⟩ := act_step ha
      · obtain ⟨T', locs', X', S', N', hv, go⟩ := ih y bytes ret pc' ls' st' H1 v H' h p l e R s m args below meth c T locs cells slots X hx hZ hown hnm hret hby (m1.2.2.trans hls) hF S N hc hl hz0
        exact ⟨T', locs', X', S', N', hv, fun fs hf => xstep_sound X.here hx (adr k sa n0) (hb hby hd) g (go fs hf)⟩
      · obtain ⟨T1, locs1, X1, S1, N1, st1⟩ := hstep_sound (ls := ls') hw X hx hZ hown hnm (hb hby hd) g S N (by dsimp only; omega) (by dsimp only; omega) hz0
        dsimp only at X1 S1 st1
        have z1 := S.1
        have z2 := S1.1
        have z3 := S.2.1
        have G := ih y bytes ret pc' ls' st' H1 v H' h p l e R s m args below meth c T1 locs1 _ _ X1 hx hZ hown hnm hret hby hls hF S1 N1 (by omega) (by omega) (by omega)
        exact Goes.of st1 G ⟨m1.1, m1.2.1⟩ m2
      · unfold oR at ho
        split at ho
        · rename_i y1 b1 mx1 r1 f1 l1 q1 q2 q3
          split at ho
          · rename_i g
            cases ho
            obtain ⟨rfl, g2, g3, rfl, rfl, g4, g5⟩ := g
            obtain ⟨u1, u2⟩ := hF _ _ q3
            have eb : b1 = ⟨#[0xb1]⟩ := by cases b1; cases g3; rfl
            subst eb
            obtain ⟨T1, X1, e1, st1⟩ := initO X hx hZ hown (hw _ (rMth_mem q1)) (hw _ (hasIM_mem g2)) (hw _ (rCode_mem q2)) rfl (g := fr (adr k sa n0) m pc ls' (.ref a :: st')) rfl (by simp [hls]) rfl (hb hby hd) (by omega) (W := l1 - 12) (by show 2 * 0 + _ ≤ _; rw [wsum_ren]; omega) (by omega)
            have G := ih y bytes ret (pc + 3) ls' st' H1 v H' h p l e R s m args below meth c T1 locs cells slots X1 hx hZ hown hnm hret hby hls hF (by rw [e1]; exact S) N hc hl (by rw [e1]; exact hz0)
            obtain ⟨T', locs', X', S', N', hv, go⟩ := G
            exact ⟨T', locs', X', S', N', hv, fun fs hf => st1 _ (go fs hf)⟩
          · cases ho
        · cases ho
    · rename_i y' b r en rest ha
      split at h
      · rename_i v1 H1 h1
        have m1 := run_size h1
        have m2 := run_size h
        obtain ⟨i, mx, na, sl, as, hq, rfl, hen, hW, hk⟩ := act_call ha
        obtain ⟨w1, w2, w3, w4, w5, -, f', l', f, lc, sig, d1, d2, d3, d4, d5, d6⟩ := cR_some hq
        obtain ⟨u1, u2⟩ := hF _ _ d2
        have hM := met_of ih l [] w4 hen h1 (f := f') (lc := l') (fun f2 l2 q => by rw [d1] at q; cases q; exact ⟨Nat.le_refl _, Nat.le_refl _⟩) S (Nat.le_refl _) (Nat.le_refl _)
        have hB := backOf (R := R) (p := p) (e := e) (below := below) (s := s) (args := args) (len := 3) (W := sl) (rm := ({ frames := f', cells := H1.length - H.length, slots := tot ws H1 - tot ws H, locals := l' } : Room)) (Q := fun w h L => w = v1.map (ren (adr k sa n0)) ∧ Sim Z ws k sa n0 H1 h ∧ Fr n0 L) hM hZ (hw _ w2) (hw _ w3) (by show f' + 1 ≤ _; omega) (by show sl + (mx + 11) + l' ≤ _; omega)
        have hsz : (fr (adr k sa n0) m pc ls st).locals.size = c.maxLocals := by simp [hls]
        have hWW : ∀ st' : List Value, wsum st' ≤ sl → 2 * (fr (adr k sa n0) m pc ls st).monitorRoom + ((st'.map (ren (adr k sa n0))).map fun v => v.category).sum ≤ sl := fun st' q => by show 2 * 0 + _ ≤ _; rw [wsum_ren]; omega
        have hback : ∀ (v' : Option Value) (vm₁ : Vm) (B : Pt), Stand p l e R s m args below meth c B.U B.locs B.cells B.slots →
            (∃ L, (v' = v1.map (ren (adr k sa n0)) ∧ Sim Z ws k sa n0 H1 B.U.heap ∧ Fr n0 L) ∧ B.locs = locs ++ L ∧ B.cells = cells + (H1.length - H.length) ∧ B.slots = slots + (tot ws H1 - tot ws H)) →
            (∀ target, Steps p.tables e below (B.U.setTop { fr (adr k sa n0) m pc ls st with pc := pc + 3, stack := v'.toList ++ rest.map (ren (adr k sa n0)) }) target → Steps p.tables e below (T.setTop (fr (adr k sa n0) m pc ls st)) target) →
            Goes p l e R s m args below meth c T Z ws k sa n0 cells slots H (fr (adr k sa n0) m pc ls st) ret v H' := by
          rintro v' vm₁ ⟨T1, L1, k1, n1⟩ X1 ⟨Lc, ⟨rfl, S1, N1⟩, l1, y1, z1⟩ st1
          dsimp only [Pt.U, Pt.locs, Pt.cells, Pt.slots] at X1 l1 y1 z1 st1 S1
          subst l1 y1 z1
          have z1 := S.1
          have z2 := S1.1
          have z3 := S.2.1
          have G := ih y bytes ret (pc + 3) ls (v1.toList ++ rest) H1 v H' h p l e R s m args below meth c T1 _ _ _ X1 hx hZ hown hnm hret hby hls hF S1 (Fr.app N N1) (by omega) (by omega) (by omega)
          refine Goes.of (fun target ht => st1 target ?_) G m1 m2
          have e1 : (v1.toList ++ rest).map (ren (adr k sa n0)) = (v1.map (ren (adr k sa n0))).toList ++ rest.map (ren (adr k sa n0)) := by cases v1 <;> simp
          rw [← e1]; exact ht
        rcases hk with ⟨hd, ws1, hna, rfl⟩ | ⟨a, as', rfl, hna, rfl, wi, ⟨hd, hn, rfl⟩ | ⟨hd, C, vs, hH, hpd⟩⟩
        · obtain ⟨v', vm₁, B, -, X1, P1, st1⟩ := Jvm.LawKit.callS X hx (y := y') hown (mvT hZ (hw _ w1)) (mvT hZ (hw _ ws1)) (mvT hZ (hw _ w3)) (mvT hZ (hw _ w2)) w5 hB (g := fr (adr k sa n0) m pc ls (as.reverse ++ rest)) rfl hsz (argsL := as.map (ren (adr k sa n0))) (rest := rest.map (ren (adr k sa n0)))
            (fun sg hsg => by rw [d3] at hsg; cases hsg; simp [hna, d4]) (by simp) (hWW rest hW) (hb hby hd) (fun _ _ => ⟨rfl, rfl, by show cells + (H1.length - H.length) ≤ _; omega, by show slots + (tot ws H1 - tot ws H) ≤ _; omega⟩)
          exact hback v' vm₁ B X1 P1 st1
        · obtain ⟨v', vm₁, B, -, X1, P1, st1⟩ := X.specialBack hx (y := y') hn hown (mvT hZ (hw _ w1)) (mvT hZ (hw _ wi)) (mvT hZ (hw _ w2)) w5 hB (g := fr (adr k sa n0) m pc ls (as'.reverse ++ .ref a :: rest)) rfl hsz (Steps.refl _) (a := adr k sa n0 a) (argsL := as'.map (ren (adr k sa n0))) (rest := rest.map (ren (adr k sa n0)))
            (fun sg hsg => by rw [d3] at hsg; cases hsg; simp [hna, d4]) (by simp [ren]) (hWW rest hW) (hb hby hd) (fun _ _ => ⟨rfl, rfl, by show cells + (H1.length - H.length) ≤ _; omega, by show slots + (tot ws H1 - tot ws H) ≤ _; omega⟩)
          exact hback v' vm₁ B X1 P1 fun target ht => st1.trans ht
        · have E := (S.2.2.2.2 a _ hH).1
          rcases hpd with ⟨wp, ki, wki⟩ | ⟨wd, wsel, rfl⟩
          · obtain ⟨cq, hq1, hq2⟩ := E.cell
            have hpa : s.PrivateAt y' := Cond.privateMethod_at (mvP hZ (hw _ wp) (args := #[]))
            have hsel : (Jvm.Cond.selects y'.cls y' y').before args s = true := by
              have wz : (Jvm.Cond.instantiable y'.cls ki).before args s = true := mvT hZ (hw _ wki)
              obtain ⟨c2, k2, i1, i2, -, i4, -⟩ := Cond.instantiable_spec wz
              exact selects_self_of_private i1 i2 (Bool.or_eq_false_iff.mp i4).1 hpa (mvT hZ (hw _ wi)) w5
            obtain ⟨v', vm₁, B, -, X1, P1, st1⟩ := X.privateBack hx (y := y') hown (mvT hZ (hw _ w1)) (mvT hZ (hw _ wi)) hsel hpa (mvT hZ (hw _ w2)) w5 hB (g := fr (adr k sa n0) m pc ls (as'.reverse ++ .ref a :: rest)) rfl hsz (Steps.refl _) (a := adr k sa n0 a) hq1 hq2 (argsL := as'.map (ren (adr k sa n0))) (rest := rest.map (ren (adr k sa n0)))
              (fun sg hsg => by rw [d3] at hsg; cases hsg; simp [hna, d4]) (by simp [ren]) (hWW rest hW) (hb hby hd) (fun _ _ => ⟨rfl, rfl, by show cells + (H1.length - H.length) ≤ _; omega, by show slots + (tot ws H1 - tot ws H) ≤ _; omega⟩)
            exact hback v' vm₁ B X1 P1 fun target ht => st1.trans ht
          · obtain ⟨cq, kq, qa, qb, qc⟩ := isOf hZ rfl E
            obtain ⟨v', vm₁, B, -, X1, P1, st1⟩ := X.virtualBack hx (y := y') (z := y') hown (mvT hZ (hw _ w1)) (mvT hZ (hw _ wd)) (notFace_of_selects (args := #[]) (mvT hZ (hw _ wsel))) (mvT hZ (hw _ wsel)) (mvT hZ (hw _ wi)) w5 hB qa qc (g := fr (adr k sa n0) m pc ls (as'.reverse ++ .ref a :: rest)) rfl hsz (Steps.refl _) (argsL := as'.map (ren (adr k sa n0))) (rest := rest.map (ren (adr k sa n0)))
              (fun sg hsg => by rw [d3] at hsg; cases hsg; simp [hna, d4]) (by simp [ren]) (hWW rest hW) (hb hby hd) (fun _ _ => ⟨rfl, rfl, by show cells + (H1.length - H.length) ≤ _; omega, by show slots + (tot ws H1 - tot ws H) ≤ _; omega⟩)
            exact hback v' vm₁ B X1 P1 fun target ht => st1.trans ht
      · cases h
end Snd
end Jvm.Own
namespace Jvm.Own
open Sem ClassFile Op Lib Jvm.Stand Jvm.Free Jvm.LawKit Jvm.RoadKit
/-! OWN 6: from here on no machine is in sight -/
theorem run_succ {ws : Ws} {dn : Dn} {k : Nat} : ∀ {n : Nat} {y : MethodName} {bytes : ByteArray} {ret : Option FieldType} {pc : Nat} {ls : List Slot} {st : List Value} {H : AHeap} {r : Option Value × AHeap}, run ws dn k n y bytes ret pc ls st H = some r → run ws dn k (n + 1) y bytes ret pc ls st H = some r
  | 0, _, _, _, _, _, _, _, _, h => by cases h
  | n + 1, y, bytes, ret, pc, ls, st, H, r, h => by
    rw [run] at h
    rw [run]
    split at h
    · cases h
    · exact h
    · exact run_succ h
    · split at h
      · rename_i v H1 g
        rw [run_succ g]
        exact run_succ h
      · cases h
theorem run_mono {ws : Ws} {dn : Dn} {k n n' : Nat} {y : MethodName} {bytes : ByteArray} {ret : Option FieldType} {pc : Nat} {ls : List Slot} {st : List Value} {H : AHeap} {r : Option Value × AHeap} (hn : n ≤ n') (h : run ws dn k n y bytes ret pc ls st H = some r) : run ws dn k n' y bytes ret pc ls st H = some r := by
  induction hn with
  | refl => exact h
  | step _ ih => exact run_succ ih
/-- from here on a run comes to a return at which Q holds -/
def W (ws : Ws) (dn : Dn) (k : Nat) (y : MethodName) (bytes : ByteArray) (ret : Option FieldType) (pc : Nat) (ls : List Slot) (st : List Value) (H : AHeap) (Q : Option Value → AHeap → Prop) : Prop :=
  ∃ n v H', run ws dn k n y bytes ret pc ls st H = some (v, H') ∧ Q v H'
section
variable {ws : Ws} {dn : Dn} {k : Nat} {y : MethodName} {bytes : ByteArray} {ret : Option FieldType} {pc : Nat} {ls : List Slot} {st : List Value} {H : AHeap} {Q : Option Value → AHeap → Prop}
theorem W_step {pc' : Nat} {ls' : List Slot} {st' : List Value} {H' : AHeap} (h : act ws dn k y bytes ret pc ls st H = some (.inr (.inl (pc', ls', st', H')))) : W ws dn k y bytes ret pc ls st H Q = W ws dn k y bytes ret pc' ls' st' H' Q := by
  refine propext ⟨fun ⟨n, v, H1, h1, h2⟩ => ?_, fun ⟨n, v, H1, h1, h2⟩ => ⟨n + 1, v, H1, by rw [run, h]; exact h1, h2⟩⟩
  cases n with
  | zero => cases h1
  | succ n => rw [run, h] at h1; exact ⟨n, v, H1, h1, h2⟩
theorem W_ret {v : Option Value} (h : act ws dn k y bytes ret pc ls st H = some (.inl v)) : W ws dn k y bytes ret pc ls st H Q = Q v H := by
  refine propext ⟨fun ⟨n, v, H1, h1, h2⟩ => ?_, fun h2 => ⟨1, v, H, by rw [run, h], h2⟩⟩
  cases n with
  | zero => cases h1
  | succ n => rw [run, h] at h1; cases h1; exact h2
theorem W_call {y' : MethodName} {b : ByteArray} {r : Option FieldType} {en : List Slot} {rest : List Value} (h : act ws dn k y bytes ret pc ls st H = some (.inr (.inr (y', b, r, en, rest)))) :
    W ws dn k y bytes ret pc ls st H Q = W ws dn k y' b r 0 en [] H (fun v H1 => W ws dn k y bytes ret (pc + 3) ls (v.toList ++ rest) H1 Q) := by
  refine propext ⟨fun ⟨n, v, H1, h1, h2⟩ => ?_, fun ⟨n, v, H1, h1, n', v', H', h2, h3⟩ => ⟨max n n' + 1, v', H', ?_, h3⟩⟩
  · cases n with
    | zero => cases h1
    | succ n =>
      rw [run, h] at h1
      dsimp only at h1
      split at h1
      · rename_i v' H' g; exact ⟨n, v', H', g, n, v, H1, h1, h2⟩
      · cases h1
  · rw [run, h]
    dsimp only
    rw [run_mono (Nat.le_max_left _ _) h1]
    exact run_mono (Nat.le_max_right _ _) h2
theorem W.mono {Q' : Option Value → AHeap → Prop} (h : W ws dn k y bytes ret pc ls st H Q) (hq : ∀ v H', Q v H' → Q' v H') : W ws dn k y bytes ret pc ls st H Q' := by
  obtain ⟨n, v, H', h1, h2⟩ := h; exact ⟨n, v, H', h1, hq _ _ h2⟩
theorem act_x {ins : Instr} {len pc' : Nat} {ls' : List Slot} {st' : List Value} (hd : decode bytes pc = .ok (ins, len)) (hx : xstep ins len pc ls st = some (pc', ls', st')) : act ws dn k y bytes ret pc ls st H = some (.inr (.inl (pc', ls', st', H))) := by
  unfold act; rw [hd]; dsimp only; rw [hx]
theorem act_h {ins : Instr} {len pc' : Nat} {st' : List Value} {H' : AHeap} (hd : decode bytes pc = .ok (ins, len)) (hx : xstep ins len pc ls st = none) (hh : hstep ws k y ins len pc st H = some (pc', st', H')) : act ws dn k y bytes ret pc ls st H = some (.inr (.inl (pc', ls, st', H'))) := by
  unfold act; rw [hd]; dsimp only; rw [hx]; dsimp only; rw [hh]
theorem act_c {ins : Instr} {len : Nat} (hd : decode bytes pc = .ok (ins, len)) (hx : xstep ins len pc ls st = none) (hh : hstep ws k y ins len pc st H = none) : act ws dn k y bytes ret pc ls st H = cstep ws dn y ret ins len pc ls st H := by
  unfold act; rw [hd]; dsimp only; rw [hx]; dsimp only; rw [hh]
/-- a plain step -/
theorem w_x {ins : Instr} {len pc' : Nat} {ls' : List Slot} {st' : List Value} (hd : decode bytes pc = .ok (ins, len)) (hx : xstep ins len pc ls st = some (pc', ls', st')) : W ws dn k y bytes ret pc ls st H Q = W ws dn k y bytes ret pc' ls' st' H Q := W_step (act_x hd hx)
/-- a conditional branch -/
theorem w_if {cd : ClassFile.Cond} {o : Int} {x : Int32} {t : Nat} {P : Prop} [Decidable P] (hd : decode bytes pc = .ok (.ifCond cd o, 3)) (hp : ifCond.holds cd x = decide P) (hj : jmp pc o = some t) :
    W ws dn k y bytes ret pc ls (.int x :: st) H Q = if P then W ws dn k y bytes ret t ls st H Q else W ws dn k y bytes ret (pc + 3) ls st H Q := by
  split
  · exact w_x hd (by simp only [xstep, chk, br, hp, hj, if_true]; simp [*])
  · exact w_x hd (by simp only [xstep, chk, br, hp, hj, if_true]; simp [*])
theorem w_icmp {cd : ClassFile.Cond} {o : Int} {x1 x2 : Int32} {t : Nat} {P : Prop} [Decidable P] (hd : decode bytes pc = .ok (.if_icmp cd o, 3)) (hp : if_icmp.holds cd x1 x2 = decide P) (hj : jmp pc o = some t) :
    W ws dn k y bytes ret pc ls (.int x2 :: .int x1 :: st) H Q = if P then W ws dn k y bytes ret t ls st H Q else W ws dn k y bytes ret (pc + 3) ls st H Q := by
  split
  · exact w_x hd (by simp only [xstep, chk, br, hp, hj, if_true]; simp [*])
  · exact w_x hd (by simp only [xstep, chk, br, hp, hj, if_true]; simp [*])
theorem w_get {i j : Nat} {a : Nat} {C : String} {vs : List Value} {v : Value} (hd : decode bytes pc = .ok (.getfield i, 3)) (hr : gfR ws y.cls i = some (C, j)) (ho : H[a]? = some (.object C, vs)) (hv : vs[j]? = some v) :
    W ws dn k y bytes ret pc ls (.ref a :: st) H Q = W ws dn k y bytes ret (pc + 3) ls (v :: st) H Q :=
  W_step (act_h hd rfl (by simp only [hstep, chk, hGet, hr, ho, hv, if_true, Option.map_some]))
theorem w_put {i j : Nat} {a : Nat} {C : String} {ty : FieldType} {vs : List Value} {v v' : Value} {H' : AHeap} (hd : decode bytes pc = .ok (.putfield i, 3)) (hr : pfR ws y.cls y.name i = some (C, j, ty)) (ho : H[a]? = some (.object C, vs)) (hk : k ≤ a) (hj : j < vs.length) (hv : putv ty v = some v') (hH : H.set a (.object C, vs.set j v') = H') :
    W ws dn k y bytes ret pc ls (v :: .ref a :: st) H Q = W ws dn k y bytes ret (pc + 3) ls st H' Q :=
  W_step (act_h hd rfl (by simp only [hstep, chk, hPut, hr, ho, hv, if_true, true_and, hk, hj, Option.map_some, hH, and_self]))
theorem w_new {i : Nat} {C : String} (hd : decode bytes pc = .ok (.new i, 3)) (hr : hNew ws y.cls i pc H st = some (pc + 3, .ref H.length :: st, H ++ [(.object C, (olay ws C).map dflt)])) :
    W ws dn k y bytes ret pc ls st H Q = W ws dn k y bytes ret (pc + 3) ls (.ref H.length :: st) (H ++ [(.object C, (olay ws C).map dflt)]) Q :=
  W_step (act_h hd rfl (by simp only [hstep, chk, if_true]; exact hr))
theorem w_newA {aty : ArrayType} {n : Int32} {ty : FieldType} (hd : decode bytes pc = .ok (.newarray aty, 2)) (ht : newarray.typeOf aty = ty) (hr : hasArr ws ty = true) (hn : ¬ n < 0) (hb : n.toNatClampNeg * 8 ≤ 536870912) :
    W ws dn k y bytes ret pc ls (.int n :: st) H Q = W ws dn k y bytes ret (pc + 2) ls (.ref H.length :: st) (H ++ [(.array ty, List.replicate n.toNatClampNeg (defaultValue ty))]) Q := by
  subst ht
  exact W_step (act_h hd rfl (by simp only [hstep, chk, hNewA, hr, hn, hb, if_true, not_false_eq_true, and_self]))
/-- may the instruction read an array of that kind? -/
def ldOk : Instr → FieldType → Bool
  | .iaload, .int | .caload, .char | .laload, .long | .baload, .byte | .baload, .boolean => true
  | _, _ => false
def stOk : Instr → FieldType → Bool
  | .iastore, .int | .castore, .char | .lastore, .long | .bastore, .byte | .bastore, .boolean => true
  | _, _ => false
theorem w_ald {ins : Instr} {a : Nat} {j : Int32} {ty : FieldType} {vs : List Value} {v : Value} (hd : decode bytes pc = .ok (ins, 1)) (hi : ldOk ins ty = true) (ho : H[a]? = some (.array ty, vs)) (hj : ¬ j < 0) (hv : vs[j.toNatClampNeg]? = some v) :
    W ws dn k y bytes ret pc ls (.int j :: .ref a :: st) H Q = W ws dn k y bytes ret (pc + 1) ls (v :: st) H Q := by
  unfold ldOk at hi
  split at hi
  all_goals first
    | exact W_step (act_h hd rfl (by simp only [hstep, chk, hLd, okT, okB, ho, hv, hj, if_true, Option.map_some, decide_true, not_false_eq_true, and_self, Bool.or_true, Bool.true_or]))
    | cases hi
theorem w_ast {ins : Instr} {a : Nat} {j : Int32} {ty : FieldType} {vs : List Value} {v v' : Value} {H' : AHeap} (hd : decode bytes pc = .ok (ins, 1)) (hi : stOk ins ty = true) (ho : H[a]? = some (.array ty, vs)) (hk : k ≤ a) (hj : ¬ j < 0) (hl : j.toNatClampNeg < vs.length) (hv : putv ty v = some v') (hH : H.set a (.array ty, vs.set j.toNatClampNeg v') = H') :
    W ws dn k y bytes ret pc ls (v :: .int j :: .ref a :: st) H Q = W ws dn k y bytes ret (pc + 1) ls st H' Q := by
  unfold stOk at hi
  split at hi
  all_goals first
    | exact W_step (act_h hd rfl (by simp only [hstep, chk, hSt, okT, okB, ho, hv, hj, hk, hl, hH, if_true, Option.map_some, decide_true, not_false_eq_true, and_self, Bool.or_true, Bool.true_or]))
    | cases hi
theorem w_len {a : Nat} {ty : FieldType} {vs : List Value} (hd : decode bytes pc = .ok (.arraylength, 1)) (ho : H[a]? = some (.array ty, vs)) :
    W ws dn k y bytes ret pc ls (.ref a :: st) H Q = W ws dn k y bytes ret (pc + 1) ls (.int vs.length.toInt32 :: st) H Q :=
  W_step (act_h hd rfl (by simp only [hstep, chk, hLen, ho, if_true]))
theorem w_ldc {i : Nat} {v : Int32} (hd : decode bytes pc = .ok (.ldc i, 2)) (hr : rCon ws y.cls i = some v) : W ws dn k y bytes ret pc ls st H Q = W ws dn k y bytes ret (pc + 2) ls (.int v :: st) H Q :=
  W_step (act_h hd rfl (by simp only [hstep, chk, hr, if_true, Option.map_some]))
theorem w_ldcw {i : Nat} {v : Int32} (hd : decode bytes pc = .ok (.ldc_w i, 3)) (hr : rCon ws y.cls i = some v) : W ws dn k y bytes ret pc ls st H Q = W ws dn k y bytes ret (pc + 3) ls (.int v :: st) H Q :=
  W_step (act_h hd rfl (by simp only [hstep, chk, hr, if_true, Option.map_some]))
theorem w_ldc2 {i : Nat} {v : Int64} (hd : decode bytes pc = .ok (.ldc2_w i, 3)) (hr : rConL ws y.cls i = some v) : W ws dn k y bytes ret pc ls st H Q = W ws dn k y bytes ret (pc + 3) ls (.long v :: st) H Q :=
  W_step (act_h hd rfl (by simp only [hstep, chk, hr, if_true, Option.map_some]))
theorem w_iret {z : Int32} (hd : decode bytes pc = .ok (.ireturn, 1)) (hr : ret = some .int) : W ws dn k y bytes ret pc ls (.int z :: st) H Q = Q (some (.int z)) H := by
  subst hr; exact W_ret (by rw [act_c hd rfl rfl]; rfl)
theorem w_iretN {z : Int32} {t : FieldType} (hd : decode bytes pc = .ok (.ireturn, 1)) (hr : ret = some t) (ht : t = .int ∨ t = .boolean ∨ t = .byte ∨ t = .char ∨ t = .short) : W ws dn k y bytes ret pc ls (.int z :: st) H Q = Q (some (.int (nar t z))) H := by
  subst hr; exact W_ret (by rw [act_c hd rfl rfl]; simp only [cstep, chk, if_true, ht])
theorem w_lret {z : Int64} (hd : decode bytes pc = .ok (.lreturn, 1)) (hr : ret = some .long) : W ws dn k y bytes ret pc ls [.long z] H Q = Q (some (.long z)) H := by
  subst hr; exact W_ret (by rw [act_c hd rfl rfl]; rfl)
theorem w_vret (hd : decode bytes pc = .ok (.return_, 1)) (hr : ret = none) : W ws dn k y bytes ret pc ls [] H Q = Q none H := by
  subst hr; exact W_ret (by rw [act_c hd rfl rfl]; rfl)
theorem w_obj {i sl : Nat} {a : Nat} (hd : decode bytes pc = .ok (.invokespecial i, 3)) (hr : oR ws dn y i = some sl) (hw : wsum st ≤ sl) : W ws dn k y bytes ret pc ls (.ref a :: st) H Q = W ws dn k y bytes ret (pc + 3) ls st H Q :=
  W_step (by rw [act_c hd rfl rfl]; simp only [cstep, chk, if_true, hr, hw])
theorem w_stat {i mx na sl : Nat} {y' : MethodName} {b : ByteArray} {r : Option FieldType} {as rest : List Value} {en : List Slot} (hd : decode bytes pc = .ok (.invokestatic i, 3)) (hr : sR ws dn y i = some (y', b, mx, r, na, sl)) (hn : as.length = na) (hw : wsum rest ≤ sl) (he : (ent as.reverse).length ≤ mx) (hen : entry as.reverse mx = en) :
    W ws dn k y bytes ret pc ls (as ++ rest) H Q = W ws dn k y' b r 0 en [] H (fun v H1 => W ws dn k y bytes ret (pc + 3) ls (v.toList ++ rest) H1 Q) := by
  subst hn hen
  have e1 : (as ++ rest).take as.length = as := by simp
  have e2 : (as ++ rest).drop as.length = rest := by simp
  exact W_call (by rw [act_c hd rfl rfl]; simp only [cstep, chk, if_true, hr, e1, e2, hw, he, List.length_append, Nat.le_add_right, and_self])
theorem w_spec {i mx na sl a : Nat} {y' : MethodName} {b : ByteArray} {r : Option FieldType} {as rest : List Value} {en : List Slot} (hd : decode bytes pc = .ok (.invokespecial i, 3)) (h0 : oR ws dn y i = none) (hr : nR ws dn y i = some (y', b, mx, r, na, sl)) (hn : as.length = na) (hw : wsum rest ≤ sl) (he : (ent (.ref a :: as.reverse)).length ≤ mx) (hen : entry (.ref a :: as.reverse) mx = en) :
    W ws dn k y bytes ret pc ls (as ++ .ref a :: rest) H Q = W ws dn k y' b r 0 en [] H (fun v H1 => W ws dn k y bytes ret (pc + 3) ls (v.toList ++ rest) H1 Q) := by
  subst hn hen
  have e1 : (as ++ .ref a :: rest).take as.length = as := by simp
  have e2 : (as ++ .ref a :: rest).drop as.length = .ref a :: rest := by simp
  exact W_call (by rw [act_c hd rfl rfl]; simp only [cstep, chk, if_true, h0, hr, e1, e2, hw, he, List.length_append, Nat.le_add_right, and_self])
theorem w_virt {i mx na sl a : Nat} {pv : Bool} {y' : MethodName} {b : ByteArray} {r : Option FieldType} {as rest : List Value} {en : List Slot} {C : String} {vs : List Value} (hd : decode bytes pc = .ok (.invokevirtual i, 3)) (hr : vR ws dn y i = some (pv, y', b, mx, r, na, sl)) (ho : H[a]? = some (.object C, vs)) (hC : C = y'.cls) (hn : as.length = na) (hw : wsum rest ≤ sl) (he : (ent (.ref a :: as.reverse)).length ≤ mx) (hen : entry (.ref a :: as.reverse) mx = en) :
    W ws dn k y bytes ret pc ls (as ++ .ref a :: rest) H Q = W ws dn k y' b r 0 en [] H (fun v H1 => W ws dn k y bytes ret (pc + 3) ls (v.toList ++ rest) H1 Q) := by
  subst hn hen hC
  have e1 : (as ++ .ref a :: rest).take as.length = as := by simp
  have e2 : (as ++ .ref a :: rest).drop as.length = .ref a :: rest := by simp
  exact W_call (by rw [act_c hd rfl rfl]; simp only [cstep, chk, if_true, hr, e1, e2, ho, hw, he, List.length_append, Nat.le_add_right, and_self, or_true])
end
theorem law_of {Z : State} {a0 : Array Value} {ws : Ws} {dn : Dn} {k sa n0 : Nat} (hw : ∀ d ∈ ws, d.before a0 Z = true) (l : Launch) {y : MethodName} {b : ByteArray} {mx f lc rc rs : Nat} {r : Option FieldType} (wsx : List Jvm.Cond) (hp : Jvm.plainName y.cls = true) {as : List Value} (he : (ent as).length ≤ mx) {H : AHeap}
    (hW : W ws dn k y b r 0 (entry as mx) [] H (fun v H1 => v = some (.int 1) ∧ H1.length - H.length ≤ rc ∧ tot ws H1 - tot ws H ≤ rs)) (hdn : ∀ f' l', dnOf dn y = some (f', l') → f' ≤ f ∧ l' ≤ lc) {h : Heap} (S : Sim Z ws k sa n0 H h) :
    MetFree l y (head1 (Jvm.Cond.code y b mx r :: wsx) ({ frames := f, cells := rc, slots := rs, locals := lc } : Room)) (fun a U => a = (as.map (ren (adr k sa n0))).toArray ∧ Z.Warmed39 U.vm ∧ U.heap = h) (fun _ _ _ _ _ => True)
      (fun _ U o U' => ∃ w L, o = .returned w ∧ (w = some (.int 1) ∧ Fr n0 L) ∧ FrameEnd U o U' L rc rs) := by
  obtain ⟨n, v, H1, h1, rfl, h3, h4⟩ := hW
  have M := met_of (snd hw n) l wsx hp he h1 hdn S h3 h4
  intro p e ha hc hk s m args below hf happ hP hK
  obtain ⟨n', o, g1, g2, g3, w, L, rfl, ⟨rfl, -, N⟩, F⟩ := M p e ha hc hk s m args below hf happ hP hK
  exact ⟨n', _, g1, g2, g3, _, L, rfl, ⟨rfl, N⟩, F.1, F.2.1, F.2.2.mono h3 h4⟩
/-- the start of a law whose arguments hold no reference -/
theorem Sim.empty (Z : State) (ws : Ws) (h : Heap) : Sim Z ws 0 0 h.size [] h :=
  ⟨by simp, Nat.le_refl _, Nat.zero_le _, (fun q => absurd q (by decide)), (fun i o q => by simp at q)⟩
/-- the start of a law over one array of ints -/
theorem Sim.script {Z : State} (ws : Ws) {h : Heap} {a : Addr} {c : Cell} {vs : List Int32} (A : Arr Z h a c .int) (e : c.slots = (vs.map Value.int).toArray) : Sim Z ws 1 a h.size [(.array .int, vs.map Value.int)] h := by
  refine ⟨by simp, Nat.le_refl _, Nat.le_refl _, fun _ => A.lt, fun i o q => ?_⟩
  cases i with
  | zero =>
    cases q
    refine ⟨c, A, e.trans ?_⟩
    rw [List.map_map]; rfl
  | succ i => cases q
end Jvm.Own
namespace Jvm.Own
open Sem ClassFile Op Lib Jvm.Stand Jvm.Free Jvm.LawKit Jvm.RoadKit
/-! OWN 7: states of an object as plain functions -/
def ou {α : Type} (s : Nat → α) (i : Nat) (v : α) : Nat → α := fun j => if j = i then v else s j
theorem ou_a {α : Type} (s : Nat → α) (i : Nat) (v : α) (j : Nat) : ou s i v j = if j = i then v else s j := rfl
def pad (b : Nat) (pre : AHeap) : AHeap := (pre ++ List.replicate b (FieldType.int, [])).take b
theorem pad_len (b : Nat) (pre : AHeap) : (pad b pre).length = b := by simp [pad]
theorem pad_eq {b : Nat} {pre : AHeap} (h : pre.length = b) : pad b pre = pre := by subst h; simp [pad]
theorem pad_0 (pre : AHeap) : pad 0 pre = [] := by simp [pad]
theorem tot_cons (ws : Ws) (o : FieldType × List Value) (r : AHeap) : tot ws (o :: r) = cost ws o + tot ws r := by simp [tot]
theorem tot_append (ws : Ws) (a r : AHeap) : tot ws (a ++ r) = tot ws a + tot ws r := by simp [tot]
theorem tot_nil (ws : Ws) : tot ws [] = 0 := rfl
theorem pad_get (b : Nat) (pre r : AHeap) (i : Nat) : (pad b pre ++ r)[b + i]? = r[i]? := by
  rw [List.getElem?_append_right (by rw [pad_len]; omega), pad_len]; congr 1; omega
theorem pad_get0 (b : Nat) (pre r : AHeap) : (pad b pre ++ r)[b]? = r[0]? := pad_get b pre r 0
theorem pad_set (b : Nat) (pre r : AHeap) (i : Nat) (o : FieldType × List Value) : (pad b pre ++ r).set (b + i) o = pad b pre ++ r.set i o := by
  rw [List.set_append_right _ _ (by rw [pad_len]; omega), pad_len]; congr 2; omega
theorem pad_set0 (b : Nat) (pre r : AHeap) (o : FieldType × List Value) : (pad b pre ++ r).set b o = pad b pre ++ r.set 0 o := pad_set b pre r 0 o
theorem rCode_of {ws : Ws} {y : MethodName} {b : ByteArray} {m i : Nat} {r : Option FieldType} (h : ws[i]? = some (.code y b m r)) (h2 : (ws.take i).all (fun d => match d with | .code z _ _ _ => !decide (z = y) | _ => true) = true) : rCode ws y = some (b, m, r) := by
  have e : ws = ws.take i ++ (.code y b m r :: ws.drop (i + 1)) := by
    obtain ⟨hi, hg⟩ := List.getElem?_eq_some_iff.mp h
    rw [← hg, ← List.drop_eq_getElem_cons hi, List.take_append_drop]
  unfold rCode
  rw [e, List.findSome?_append]
  have e1 : (ws.take i).findSome? (fun d => match d with | .code z b m r => if z = y then some (b, m, r) else none | _ => none) = none := by
    rw [List.findSome?_eq_none_iff]
    intro d hd
    have q := List.all_eq_true.mp h2 d hd
    split
    · rename_i z b' m' r'
      simp at q
      simp [q]
    · rfl
  rw [e1]
  simp
theorem cR_of {ws : Ws} {dn : Dn} {y y' : MethodName} {b : ByteArray} {mx i f' l' f l na sl : Nat} {r : Option FieldType} {sig : MethodDescriptor} (h1 : rMth ws y.cls i = some y') (h2 : rCode ws y' = some (b, mx, r)) (h3 : dnOf dn y' = some (f', l')) (h4 : dnOf dn y = some (f, l)) (h5 : parseMethodDescriptor y'.desc = some sig)
    (h6 : decide (hasInit ws y'.cls = true ∧ Jvm.plainName y'.cls = true ∧ y'.cls ≠ "java/lang/invoke/MethodHandle" ∧ y'.cls ≠ "java/lang/invoke/VarHandle" ∧ f' + 1 ≤ f ∧ mx + 11 + l' ≤ l) = true) (h7 : sig.parameters.length = na) (h8 : l - (mx + 11 + l') = sl) : cR ws dn y i = some (y', b, mx, r, na, sl) := by
  subst h7 h8
  unfold cR
  rw [h1]; dsimp only
  rw [h2, h3, h4, h5]; dsimp only
  rw [if_pos (of_decide_eq_true h6)]
theorem sR_of {ws : Ws} {dn : Dn} {y : MethodName} {i : Nat} {q : MethodName × ByteArray × Nat × Option FieldType × Nat × Nat} (h : cR ws dn y i = some q) (hs : hasStat ws q.1 = true) : sR ws dn y i = some q := by
  unfold sR; rw [h]; dsimp only; rw [if_pos hs]
theorem nR_of {ws : Ws} {dn : Dn} {y : MethodName} {i : Nat} {q : MethodName × ByteArray × Nat × Option FieldType × Nat × Nat} (h : cR ws dn y i = some q) (h1 : q.1.name = "<init>") (h2 : hasIM ws q.1 = true) (h3 : q.2.2.2.1 = none) : nR ws dn y i = some q := by
  unfold nR; rw [h]; dsimp only; rw [if_pos ⟨h1, h2, h3⟩]
theorem vR_of {ws : Ws} {dn : Dn} {y : MethodName} {i : Nat} {q : MethodName × ByteArray × Nat × Option FieldType × Nat × Nat} (h : cR ws dn y i = some q) (h1 : hasIM ws q.1 = true) (h2 : decide (hasPriv ws q.1 = true ∧ (rInst ws q.1.cls).isSome = true) = false) (h3 : decide (hasDecl ws q.1 = true ∧ hasSel ws q.1 = true) = true) : vR ws dn y i = some (false, q) := by
  unfold vR; rw [h]; dsimp only; rw [if_pos h1, if_neg (of_decide_eq_false h2), if_pos (of_decide_eq_true h3)]
theorem pR_of {ws : Ws} {dn : Dn} {y : MethodName} {i : Nat} {q : MethodName × ByteArray × Nat × Option FieldType × Nat × Nat} (h : cR ws dn y i = some q) (h1 : hasIM ws q.1 = true) (h2 : decide (hasPriv ws q.1 = true ∧ (rInst ws q.1.cls).isSome = true) = true) : vR ws dn y i = some (true, q) := by
  unfold vR; rw [h]; dsimp only; rw [if_pos h1, if_pos (of_decide_eq_true h2)]
def inB {α : Type} (j : Int32) (l : List α) : Prop := ¬ j < 0 ∧ j.toNatClampNeg < l.length
def getA (l : List Int32) (j : Int32) : Int32 := l.getD j.toNatClampNeg 0
def getL (l : List Int64) (j : Int32) : Int64 := l.getD j.toNatClampNeg 0
def setA {α : Type} (l : List α) (j : Int32) (v : α) : List α := l.set j.toNatClampNeg v
def c1 : Slot → Bool
  | .unset => true
  | .second => false
  | .val v => v.category == 1
theorem c1_u : c1 .unset = true := rfl
theorem c1_i (x : Int32) : c1 (.val (.int x)) = true := rfl
theorem c1_r (a : Nat) : c1 (.val (.ref a)) = true := rfl
theorem c1_n : c1 (.val .null) = true := rfl
theorem i_eq (x y : Int32) : if_icmp.holds .eq x y = decide (x = y) := by simp only [if_icmp.holds]; by_cases h : x = y <;> simp [h]
theorem i_ne (x y : Int32) : if_icmp.holds .ne x y = !decide (x = y) := by simp only [if_icmp.holds]; by_cases h : x = y <;> simp [h]
theorem i_lt (x y : Int32) : if_icmp.holds .lt x y = decide (x < y) := rfl
theorem i_gt (x y : Int32) : if_icmp.holds .gt x y = decide (y < x) := rfl
theorem i_ge (x y : Int32) : if_icmp.holds .ge x y = !decide (x < y) := by
  show decide (y ≤ x) = _
  have e1 : (y ≤ x) ↔ ¬ (x < y) := by rw [Int32.le_iff_toInt_le, Int32.lt_iff_toInt_lt]; omega
  by_cases h : x < y
  · have : ¬ y ≤ x := fun g => e1.mp g h
    simp [h, this]
  · have := e1.mpr h
    simp [h, this]
theorem i_le (x y : Int32) : if_icmp.holds .le x y = !decide (y < x) := i_ge y x
theorem z_eq (x : Int32) : ifCond.holds .eq x = decide (x = 0) := i_eq x 0
theorem z_ne (x : Int32) : ifCond.holds .ne x = !decide (x = 0) := i_ne x 0
theorem z_lt (x : Int32) : ifCond.holds .lt x = decide (x < 0) := rfl
theorem z_gt (x : Int32) : ifCond.holds .gt x = decide (0 < x) := rfl
theorem z_ge (x : Int32) : ifCond.holds .ge x = !decide (x < 0) := i_ge x 0
theorem z_le (x : Int32) : ifCond.holds .le x = !decide (0 < x) := i_le x 0
theorem nb0 : nar .boolean 0 = 0 := by decide
theorem nb1 : nar .boolean 1 = 1 := by decide
section
variable {ws : Ws} {dn : Dn} {k : Nat} {y : MethodName} {bytes : ByteArray} {ret : Option FieldType} {pc : Nat} {ls : List Slot} {st : List Value} {H : AHeap} {Q : Option Value → AHeap → Prop}
theorem W_stuck (h : act ws dn k y bytes ret pc ls st H = none) : W ws dn k y bytes ret pc ls st H Q = False := by
  refine propext ⟨fun ⟨n, v, H1, h1, h2⟩ => ?_, False.elim⟩
  cases n with
  | zero => cases h1
  | succ n => rw [run, h] at h1; cases h1
theorem stl_c1 {i : Nat} {o : Slot} {v : Value} (ho : ls[i]? = some o) (hc : c1 o = true) (hv : v.category = 1) : stl ls i v = some (ls.set i (.val v)) := by
  have h := XS.store1 (l := ls.toArray) (i := i) (v := v) (o := o) (by simpa using ho) (by
    cases o with
    | unset => exact Or.inl rfl
    | second => cases hc
    | val w => exact Or.inr ⟨w, rfl, by simpa [c1] using hc⟩) hv
  unfold stl
  rw [h]; simp
/-- a store of one word -/
theorem w_st {ins : Instr} {len i : Nat} {o : Slot} {v : Value} {p : Value → Bool} {nx : Nat} {ls' : List Slot} (hd : decode bytes pc = .ok (ins, len)) (hx : xstep ins len pc ls (v :: st) = stV p nx i ls (v :: st)) (hp : p v = true) (hv : v.category = 1) (ho : ls[i]? = some o) (hs : ls.set i (.val v) = ls') (hc : c1 o = true) :
    W ws dn k y bytes ret pc ls (v :: st) H Q = W ws dn k y bytes ret nx ls' st H Q := by
  subst hs
  exact w_x hd (by rw [hx]; simp only [stV, hp, if_true, stl_c1 ho hc hv, Option.map_some])
theorem w_iinc {i : Nat} {c : Int} {x z : Int32} {ls' : List Slot} (hd : decode bytes pc = .ok (.iinc i c, 3)) (ho : ls[i]? = some (.val (.int x))) (hz : Int32.ofInt c = z) (hs : ls.set i (.val (.int (x + z))) = ls') :
    W ws dn k y bytes ret pc ls st H Q = W ws dn k y bytes ret (pc + 3) ls' st H Q := by
  subst hs hz
  exact w_x hd (by simp only [xstep, chk, if_true, ho, stl_c1 (v := .int (x + Int32.ofInt c)) ho rfl rfl, Option.map_some])
theorem w_con {ins : Instr} {len nx : Nat} {v v' : Value} (hd : decode bytes pc = .ok (ins, len)) (hx : xstep ins len pc ls st = some (nx, ls, v :: st)) (hv : v = v') : W ws dn k y bytes ret pc ls st H Q = W ws dn k y bytes ret nx ls (v' :: st) H Q := by
  subst hv; exact w_x hd hx
theorem w_ifN {cd : ClassFile.Cond} {o : Int} {x : Int32} {t : Nat} {P : Prop} [Decidable P] (hd : decode bytes pc = .ok (.ifCond cd o, 3)) (hp : ifCond.holds cd x = !decide P) (hj : jmp pc o = some t) :
    W ws dn k y bytes ret pc ls (.int x :: st) H Q = if P then W ws dn k y bytes ret (pc + 3) ls st H Q else W ws dn k y bytes ret t ls st H Q := by
  split
  · exact w_x hd (by simp only [xstep, chk, br, hp, hj, if_true]; simp [*])
  · exact w_x hd (by simp only [xstep, chk, br, hp, hj, if_true]; simp [*])
theorem w_icmpN {cd : ClassFile.Cond} {o : Int} {x1 x2 : Int32} {t : Nat} {P : Prop} [Decidable P] (hd : decode bytes pc = .ok (.if_icmp cd o, 3)) (hp : if_icmp.holds cd x1 x2 = !decide P) (hj : jmp pc o = some t) :
    W ws dn k y bytes ret pc ls (.int x2 :: .int x1 :: st) H Q = if P then W ws dn k y bytes ret (pc + 3) ls st H Q else W ws dn k y bytes ret t ls st H Q := by
  split
  · exact w_x hd (by simp only [xstep, chk, br, hp, hj, if_true]; simp [*])
  · exact w_x hd (by simp only [xstep, chk, br, hp, hj, if_true]; simp [*])
theorem ld_stuck {ins : Instr} {a : Nat} {j : Int32} {ty : FieldType} {vs : List Value} (hd : decode bytes pc = .ok (ins, 1)) (hi : ldOk ins ty = true) (ho : H[a]? = some (.array ty, vs)) (hj : ¬ (¬ j < 0 ∧ j.toNatClampNeg < vs.length)) : act ws dn k y bytes ret pc ls (.int j :: .ref a :: st) H = none := by
  have hv : j < 0 ∨ vs[j.toNatClampNeg]? = none := by
    by_cases q : j < 0
    · exact Or.inl q
    · exact Or.inr (List.getElem?_eq_none (Nat.le_of_not_lt fun g => hj ⟨q, g⟩))
  unfold ldOk at hi
  split at hi
  all_goals first
    | (rw [act_c hd rfl (by rcases hv with q | q <;> simp [hstep, chk, hLd, okT, okB, ho, q])]; rfl)
    | cases hi
theorem st_stuck {ins : Instr} {a : Nat} {j : Int32} {ty : FieldType} {vs : List Value} {v : Value} (hd : decode bytes pc = .ok (ins, 1)) (hi : stOk ins ty = true) (ho : H[a]? = some (.array ty, vs)) (hj : ¬ (¬ j < 0 ∧ j.toNatClampNeg < vs.length)) : act ws dn k y bytes ret pc ls (v :: .int j :: .ref a :: st) H = none := by
  have hv : ¬ (¬ j < 0 ∧ j.toNatClampNeg < vs.length) := hj
  unfold stOk at hi
  split at hi
  all_goals first
    | (rw [act_c hd rfl (by simp only [hstep, chk, hSt, okT, okB, ho, if_true]; rw [if_neg (fun q => hv q.2.2)])]; rfl)
    | cases hi
theorem w_ild {ins : Instr} {a : Nat} {j : Int32} {ty : FieldType} {l : List Int32} (hd : decode bytes pc = .ok (ins, 1)) (hi : ldOk ins ty = true) (ho : H[a]? = some (.array ty, l.map Value.int)) :
    W ws dn k y bytes ret pc ls (.int j :: .ref a :: st) H Q = (inB j l ∧ W ws dn k y bytes ret (pc + 1) ls (.int (getA l j) :: st) H Q) := by
  by_cases h : inB j l
  · rw [w_ald hd hi ho h.1 (v := .int (getA l j)) (by simp [getA, h.2])]
    simp [h]
  · rw [W_stuck (ld_stuck hd hi ho (by simpa [inB] using h))]
    simp [h]
theorem w_lld {a : Nat} {j : Int32} {l : List Int64} (hd : decode bytes pc = .ok (.laload, 1)) (ho : H[a]? = some (.array .long, l.map Value.long)) :
    W ws dn k y bytes ret pc ls (.int j :: .ref a :: st) H Q = (inB j l ∧ W ws dn k y bytes ret (pc + 1) ls (.long (getL l j) :: st) H Q) := by
  by_cases h : inB j l
  · rw [w_ald hd rfl ho h.1 (v := .long (getL l j)) (by simp [getL, h.2])]
    simp [h]
  · rw [W_stuck (ld_stuck hd rfl ho (by simpa [inB] using h))]
    simp [h]
theorem w_ist {ins : Instr} {a : Nat} {j v v' : Int32} {ty : FieldType} {l : List Int32} {H' : AHeap} (hd : decode bytes pc = .ok (ins, 1)) (hi : stOk ins ty = true) (ho : H[a]? = some (.array ty, l.map Value.int)) (hk : k ≤ a) (hv : putv ty (.int v) = some (.int v')) (hH : H.set a (.array ty, (setA l j v').map Value.int) = H') :
    W ws dn k y bytes ret pc ls (.int v :: .int j :: .ref a :: st) H Q = (inB j l ∧ W ws dn k y bytes ret (pc + 1) ls st H' Q) := by
  by_cases h : inB j l
  · rw [w_ast (H' := H') hd hi ho hk h.1 (by simpa using h.2) hv (by rw [← hH, setA, List.map_set])]
    simp [h]
  · rw [W_stuck (st_stuck hd hi ho (by simpa [inB] using h))]
    simp [h]
theorem w_lst {a : Nat} {j : Int32} {v : Int64} {l : List Int64} {H' : AHeap} (hd : decode bytes pc = .ok (.lastore, 1)) (ho : H[a]? = some (.array .long, l.map Value.long)) (hk : k ≤ a) (hH : H.set a (.array .long, (setA l j v).map Value.long) = H') :
    W ws dn k y bytes ret pc ls (.long v :: .int j :: .ref a :: st) H Q = (inB j l ∧ W ws dn k y bytes ret (pc + 1) ls st H' Q) := by
  by_cases h : inB j l
  · rw [w_ast (H' := H') hd rfl ho hk h.1 (by simpa using h.2) rfl (by rw [← hH, setA, List.map_set])]
    simp [h]
  · rw [W_stuck (st_stuck hd rfl ho (by simpa [inB] using h))]
    simp [h]
theorem w_div {ins : Instr} {f : Int32 → Int32 → Int32} {x z : Int32} (hd : decode bytes pc = .ok (ins, 1)) (hx : ∀ st, xstep ins 1 pc ls st = d2 f (pc + 1) ls st) (hh : hstep ws k y ins 1 pc (.int z :: .int x :: st) H = none) (hc : cstep ws dn y ret ins 1 pc ls (.int z :: .int x :: st) H = none) :
    W ws dn k y bytes ret pc ls (.int z :: .int x :: st) H Q = (z ≠ 0 ∧ W ws dn k y bytes ret (pc + 1) ls (.int (f x z) :: st) H Q) := by
  by_cases h : z = 0
  · rw [W_stuck (by rw [act_c hd (by rw [hx]; simp [d2, h]) hh, hc])]; simp [h]
  · rw [w_x (pc' := pc + 1) (ls' := ls) (st' := .int (f x z) :: st) hd (by rw [hx]; simp only [d2, h, if_false])]; simp [h]
/-- a field's array made in a constructor -/
theorem w_iarr {i j p1 p2 p3 : Nat} {C : String} {vs : List Value} {r : AHeap} {n : Int32} {v : Value} {aty : ArrayType} {ty at' : FieldType} {l0 : Slot} {lr : List Slot} {ins : Instr} {len : Nat} {b : Nat} (hl : l0 = .val (.ref b)) (hH : H.length = b) (hk : k ≤ b)
    (d0 : decode bytes pc = .ok (.aload_n 0, 1)) (e0 : pc + 1 = p1) (dn1 : decode bytes p1 = .ok (ins, len)) (hx : ∀ st, xstep ins len p1 (l0 :: lr) st = some (p2, l0 :: lr, v :: st)) (hv : v = .int n) (d2' : decode bytes p2 = .ok (.newarray aty, 2)) (ht : newarray.typeOf aty = ty) (hr : hasArr ws ty = true) (hn : ¬ n < 0) (hb : n.toNatClampNeg * 8 ≤ 536870912) (e3 : p2 + 2 = p3)
    (d3 : decode bytes p3 = .ok (.putfield i, 3)) (hp : pfR ws y.cls y.name i = some (C, j, .array at')) (hj : j < vs.length) :
    W ws dn k y bytes ret pc (l0 :: lr) [] (H ++ (.object C, vs) :: r) Q = W ws dn k y bytes ret (p3 + 3) (l0 :: lr) [] (H ++ (.object C, vs.set j (.ref (b + (r.length + 1)))) :: (r ++ [(.array ty, List.replicate n.toNatClampNeg (defaultValue ty))])) Q := by
  subst hl e0 e3 hv hH
  rw [w_x d0 (ls' := .val (.ref H.length) :: lr) (st' := [.ref H.length]) (pc' := pc + 1) rfl, w_x dn1 (hx _), w_newA d2' ht hr hn hb]
  have e1 : (H ++ (FieldType.object C, vs) :: r).length = H.length + (r.length + 1) := by simp
  rw [e1, w_put d3 hp (vs := vs) (H' := H ++ (.object C, vs.set j (.ref (H.length + (r.length + 1)))) :: (r ++ [(.array ty, List.replicate n.toNatClampNeg (defaultValue ty))])) (by simp) hk hj rfl (by simp)]
/-- a field's plain value put at a constructor's head -/
theorem w_iint {i j p1 p2 : Nat} {C : String} {vs : List Value} {r : AHeap} {v v0 v' : Value} {ty : FieldType} {l0 : Slot} {lr : List Slot} {ins : Instr} {len : Nat} {b : Nat} (hl : l0 = .val (.ref b)) (hH : H.length = b) (hk : k ≤ b)
    (d0 : decode bytes pc = .ok (.aload_n 0, 1)) (e0 : pc + 1 = p1) (dn1 : decode bytes p1 = .ok (ins, len)) (hx : ∀ st, xstep ins len p1 (l0 :: lr) st = some (p2, l0 :: lr, v0 :: st)) (hv : v0 = v)
    (d3 : decode bytes p2 = .ok (.putfield i, 3)) (hp : pfR ws y.cls y.name i = some (C, j, ty)) (hv' : putv ty v = some v') (hj : j < vs.length) :
    W ws dn k y bytes ret pc (l0 :: lr) [] (H ++ (.object C, vs) :: r) Q = W ws dn k y bytes ret (p2 + 3) (l0 :: lr) [] (H ++ (.object C, vs.set j v') :: r) Q := by
  subst hl e0 hv hH
  rw [w_x d0 (ls' := .val (.ref H.length) :: lr) (st' := [.ref H.length]) (pc' := pc + 1) rfl, w_x dn1 (hx _)]
  rw [w_put d3 hp (vs := vs) (H' := H ++ (.object C, vs.set j v') :: r) (by simp) hk hj hv' (by simp)]
end
end Jvm.Own
namespace Jvm.Own
open Sem ClassFile Op Lib Jvm.Stand Jvm.Free Jvm.LawKit Jvm.RoadKit
theorem getA_rep (n : Nat) (j : Int32) : getA (List.replicate n 0) j = 0 := by
  simp only [getA, List.getD_eq_getElem?_getD, List.getElem?_replicate]
  split <;> rfl
/-- the array's words as plain ints -/
theorem script_of {s : State} {a : Addr} {c : Cell} (hf : Fit s) (A : Arr s s.heap a c .int) (hl : c.slots.size < 2 ^ 31) : ∃ vs : List Int32, c.slots = (vs.map Value.int).toArray := by
  have h : ∀ v ∈ c.slots.toList, ∃ x : Int32, v = .int x := fun v hv => by
    obtain ⟨i, hi, e⟩ := List.getElem_of_mem hv
    have hi' : i < c.slots.size := by simpa using hi
    have e1 : (Nat.toInt32 i).toNatClampNeg = i := by simp only [Int32.toNatClampNeg, len_toInt (Nat.lt_trans hi' hl)]; rfl
    obtain ⟨w, h1, h2⟩ := elem_fit hf A (idx_in hi' hl)
    rw [e1] at h1
    have : w = v := by rw [Array.getElem?_eq_getElem hi'] at h1; rw [← e]; simpa using (Option.some.inj h1).symm
    subst this
    exact fit_I h2 (by simp)
  have g : ∀ l : List Value, (∀ v ∈ l, ∃ x : Int32, v = .int x) → ∃ vs : List Int32, l = vs.map Value.int := fun l => by
    induction l with
    | nil => exact fun _ => ⟨[], rfl⟩
    | cons v r ih =>
      intro q
      obtain ⟨x, rfl⟩ := q _ (List.mem_cons_self ..)
      obtain ⟨vs, e⟩ := ih fun w hw => q w (List.mem_cons_of_mem _ hw)
      exact ⟨x :: vs, by rw [e]; rfl⟩
  obtain ⟨vs, e⟩ := g _ h
  exact ⟨vs, by rw [← e]⟩
end Jvm.Own
namespace Jvm.Own
open Sem ClassFile Op Lib Jvm.Stand Jvm.Free Jvm.LawKit Jvm.RoadKit
/-! OWN 8: small facts on arrays and ints -/
theorem toNat_eq (j : Int32) : j.toNatClampNeg = j.toInt.toNat := rfl
theorem lt_i {x y : Int32} : x < y ↔ x.toInt < y.toInt := Int32.lt_iff_toInt_lt
theorem inB_iff {α : Type} {j : Int32} {l : List α} : inB j l ↔ 0 ≤ j.toInt ∧ j.toInt < (l.length : Int) := by
  have e0 : (0 : Int32).toInt = 0 := rfl
  unfold inB
  rw [lt_i, toNat_eq, e0]
  omega
theorem inB_lt {α : Type} {j n : Int32} {l : List α} (hl : (l.length : Int) = n.toInt) (h0 : ¬ j < 0) (h1 : j < n) : inB j l := by
  have e0 : (0 : Int32).toInt = 0 := rfl
  rw [inB_iff]
  rw [lt_i] at h0 h1
  rw [e0] at h0
  omega
theorem setA_len {α : Type} (l : List α) (j : Int32) (v : α) : (setA l j v).length = l.length := List.length_set
theorem getA_set {l : List Int32} {i j v : Int32} (h : inB i l) : getA (setA l i v) j = if j.toNatClampNeg = i.toNatClampNeg then v else getA l j := by
  simp only [getA, setA, List.getD_eq_getElem?_getD, List.getElem?_set]
  by_cases e : j.toNatClampNeg = i.toNatClampNeg
  · rw [e]; simp [h.2]
  · simp [e, Ne.symm e]
theorem getA_set2 (l : List Int32) (i j v : Int32) : getA (setA l i v) j = if j.toNatClampNeg = i.toNatClampNeg ∧ i.toNatClampNeg < l.length then v else getA l j := by
  simp only [getA, setA, List.getD_eq_getElem?_getD, List.getElem?_set]
  by_cases e : j.toNatClampNeg = i.toNatClampNeg
  · rw [e]
    by_cases q : i.toNatClampNeg < l.length <;> simp [q]
  · simp [e, Ne.symm e]
theorem len_ou {B A : Nat → List Int32} {j : Nat} {l : List Int32} (h : ∀ i, (A i).length = (B i).length) (hl : l.length = (B j).length) : ∀ i, (ou A j l i).length = (B i).length := fun i => by
  rw [ou_a]
  split
  · rename_i e; rw [e]; exact hl
  · exact h i
end Jvm.Own
namespace Jvm.Own
open Sem ClassFile Op Lib Jvm.Stand Jvm.Free Jvm.LawKit Jvm.RoadKit
/-! OWN 9: a normal form of states; masks and ranges -/
theorem ou_same {α : Type} (s : Nat → α) (i : Nat) (v w : α) : ou (ou s i v) i w = ou s i w := by
  funext j
  simp only [ou_a]
  by_cases h : j = i <;> simp [h]
theorem ou_comm {α : Type} {s : Nat → α} {i j : Nat} {v w : α} (h : j < i) : ou (ou s i v) j w = ou (ou s j w) (i + 0) v := by
  show ou (ou s i v) j w = ou (ou s j w) i v
  funext k
  simp only [ou_a]
  by_cases h1 : k = j
  · have h2 : ¬ k = i := by omega
    simp [h1]
    intro h3; omega
  · simp [h1]
theorem setA_same {α : Type} (l : List α) (i : Int32) (v w : α) : setA (setA l i v) i w = setA l i w := by
  simp only [setA, List.set_set]
theorem clamp_ne {i j : Int32} (h0 : ¬ j < 0) (h : j < i) : j.toNatClampNeg ≠ i.toNatClampNeg := by
  have e0 : (0 : Int32).toInt = 0 := rfl
  rw [lt_i] at *
  rw [toNat_eq, toNat_eq]
  omega
theorem setA_comm {α : Type} {l : List α} {i j : Int32} {v w : α} (h0 : ¬ j < 0) (h : j < i) : setA (setA l i v) j w = setA (setA l j w) (i + 0) v := by
  rw [Int32.add_zero]
  simp only [setA]
  exact List.set_comm _ _ (Ne.symm (clamp_ne h0 h))
theorem lt_irr (x : Int32) : (x < x) = False := by
  apply propext
  rw [lt_i]
  constructor
  · intro h; omega
  · exact False.elim
theorem bit1 (x : Int32) : x &&& 1 = 0 ∨ x &&& 1 = 1 := by
  have h : (x &&& 1).toBitVec.toNat = x.toBitVec.toNat % 2 := by
    rw [Int32.toBitVec_and, BitVec.toNat_and]
    exact Nat.and_one_is_mod _
  rcases Nat.mod_two_eq_zero_or_one x.toBitVec.toNat with e | e
  · exact Or.inl (Int32.toBitVec_inj.mp (BitVec.eq_of_toNat_eq (by rw [h, e]; rfl)))
  · exact Or.inr (Int32.toBitVec_inj.mp (BitVec.eq_of_toNat_eq (by rw [h, e]; rfl)))
theorem and_bd (x m : Int32) (hm : m.toBitVec.toNat < 2147483648) : 0 ≤ (x &&& m).toInt ∧ (x &&& m).toInt ≤ (m.toBitVec.toNat : Int) := by
  have h : (x &&& m).toBitVec.toNat ≤ m.toBitVec.toNat := by
    rw [Int32.toBitVec_and, BitVec.toNat_and]
    exact Nat.and_le_right
  have e : (x &&& m).toInt = ((x &&& m).toBitVec.toNat : Int) := BitVec.toInt_eq_toNat_of_lt (by omega)
  rw [e]
  omega
theorem rng {x : Int32} {n : Nat} (h0 : 0 ≤ x.toInt) (h1 : x.toInt < n) : ∃ k, k < n ∧ x = Int32.ofNat k := by
  have e : (x.toInt.toNat : Int) = x.toInt := Int.toNat_of_nonneg h0
  refine ⟨x.toInt.toNat, by omega, ?_⟩
  have e2 : Int32.ofNat x.toInt.toNat = Int32.ofInt (x.toInt.toNat : Int) := rfl
  rw [e2, e, Int32.ofInt_toInt]
theorem getL_rep (n : Nat) (j : Int32) : getL (List.replicate n 0) j = 0 := by
  simp only [getL, List.getD_eq_getElem?_getD, List.getElem?_replicate]
  split <;> rfl
theorem getL_set2 (l : List Int64) (i j : Int32) (v : Int64) : getL (setA l i v) j = if j.toNatClampNeg = i.toNatClampNeg ∧ i.toNatClampNeg < l.length then v else getL l j := by
  simp only [getL, setA, List.getD_eq_getElem?_getD, List.getElem?_set]
  by_cases e : j.toNatClampNeg = i.toNatClampNeg
  · rw [e]
    by_cases q : i.toNatClampNeg < l.length <;> simp [q]
  · simp [e, Ne.symm e]
theorem add_i {a b : Int32} (h : -2147483648 ≤ a.toInt + b.toInt) (h' : a.toInt + b.toInt < 2147483648) : (a + b).toInt = a.toInt + b.toInt := by
  rw [Int32.toInt_add]
  have e : ((2 ^ 32 : Nat) : Int) = 4294967296 := rfl
  exact Int.bmod_eq_of_le (by rw [e]; omega) (by rw [e]; omega)
theorem sub_i {a b : Int32} (h : -2147483648 ≤ a.toInt - b.toInt) (h' : a.toInt - b.toInt < 2147483648) : (a - b).toInt = a.toInt - b.toInt := by
  rw [Int32.toInt_sub]
  have e : ((2 ^ 32 : Nat) : Int) = 4294967296 := rfl
  exact Int.bmod_eq_of_le (by rw [e]; omega) (by rw [e]; omega)
theorem mul_i {a b : Int32} (h : -2147483648 ≤ a.toInt * b.toInt) (h' : a.toInt * b.toInt < 2147483648) : (a * b).toInt = a.toInt * b.toInt := by
  rw [Int32.toInt_mul]
  have e : ((2 ^ 32 : Nat) : Int) = 4294967296 := rfl
  exact Int.bmod_eq_of_le (by rw [e]; omega) (by rw [e]; omega)
theorem i_0 : (0 : Int32).toInt = 0 := rfl
theorem i_1 : (1 : Int32).toInt = 1 := rfl
theorem add1_i {a : Int32} (h : a.toInt < 2147483647) : (a + 1).toInt = a.toInt + 1 := by
  have := Int32.le_toInt a
  exact add_i (by rw [i_1]; omega) (by rw [i_1]; omega)
theorem nn_i {a : Int32} : ¬ a < 0 ↔ 0 ≤ a.toInt := by rw [lt_i, i_0]; omega
theorem succ_nn {a : Int32} (h0 : ¬ a < 0) (h : a.toInt < 2147483647) : ¬ a + 1 < 0 := by
  rw [nn_i] at *
  rw [add1_i h]
  omega
theorem inB_set {α : Type} {l : List α} {i j : Int32} {v : α} : inB j (setA l i v) = inB j l := by
  simp only [inB, setA_len]
theorem pad_1 (c : FieldType × List Value) : pad 1 [c] = [c] := rfl
def okS (l : Slot) : Prop := l = .unset ∨ ∃ z : Int32, l = .val (.int z)
theorem okS_u : okS .unset := Or.inl rfl
theorem okS_i (z : Int32) : okS (.val (.int z)) := Or.inr ⟨z, rfl⟩
end Jvm.Own
namespace Jvm.Pilot.@@N@@
open Jvm Jvm.ClassFile Sem Op Lib Jvm.Free Jvm.Stand Jvm.LawKit Jvm.RoadKit Bundle Jvm.Own Jvm.Pilot.@@N@@.Jvm.D
/-- frames and words that each method asks -/
def dn : Dn := [(⟨"ResponseTimeGate", "<init>", "(I)V"⟩, 1, 13), (⟨"ResponseTimeGate", "resetSim", "()V"⟩, 0, 0), (⟨"ResponseTimeGate", "commitTask", "()I"⟩, 3, 55), (⟨"ResponseTimeGate", "misses", "()I"⟩, 0, 0), (⟨"ResponseTimeGate", "taskCount", "()I"⟩, 0, 0), (⟨"ResponseTimeGate", "hyperperiod", "()I"⟩, 0, 0), (⟨"ResponseTimeGate", "failedTask", "()I"⟩, 0, 0), (⟨"ResponseTimeGate", "time", "()I"⟩, 0, 0), (⟨"ResponseTimeGate", "bound", "(I)I"⟩, 1, 13), (⟨"ResponseTimeGate", "admitted", "(I)Z"⟩, 0, 0), (⟨"ResponseTimeGate", "jobsDone", "(I)I"⟩, 1, 13), (⟨"ResponseTimeGate", "ceiling", "(I)I"⟩, 0, 0), (⟨"ResponseTimeGate", "addSection", "(III)I"⟩, 1, 17), (⟨"ResponseTimeGate", "beginTask", "(IIII)I"⟩, 1, 14), (⟨"ResponseTimeGate", "priorityTaken", "(I)Z"⟩, 0, 0), (⟨"ResponseTimeGate", "overlapsStaged", "(II)Z"⟩, 0, 0), (⟨"ResponseTimeGate", "lcmWith", "(II)I"⟩, 1, 18), (⟨"ResponseTimeGate", "gcd", "(II)I"⟩, 0, 0), (⟨"ResponseTimeGate", "placeStaged", "(I)V"⟩, 0, 0), (⟨"ResponseTimeGate", "analyze", "(I)I"⟩, 2, 39), (⟨"ResponseTimeGate", "computeCeilings", "(I)V"⟩, 0, 0), (⟨"ResponseTimeGate", "blockingOf", "(II)I"⟩, 0, 0), (⟨"ResponseTimeGate", "responseOf", "(III)I"⟩, 1, 20), (⟨"ResponseTimeGate", "interference", "(III)I"⟩, 0, 0), (⟨"ResponseTimeGate", "adoptResults", "(I)V"⟩, 0, 0), (⟨"ResponseTimeGate", "run", "(I)I"⟩, 3, 45), (⟨"ResponseTimeGate", "tick", "()V"⟩, 2, 32), (⟨"ResponseTimeGate", "releaseJobs", "()V"⟩, 0, 0), (⟨"ResponseTimeGate", "pickRunning", "()I"⟩, 1, 14), (⟨"ResponseTimeGate", "activePriority", "(I)I"⟩, 0, 0), (⟨"ResponseTimeGate", "executeUnit", "(I)V"⟩, 1, 14), (⟨"ResponseTimeGate", "takeResourceIfStart", "(I)V"⟩, 0, 0), (⟨"ResponseTimeGate", "checkMisses", "()V"⟩, 0, 0), (⟨"ResponseTimeGate", "completeJob", "(I)V"⟩, 0, 0), (⟨"ResponseTimeGateL6", "getC", "(JI)I"⟩, 0, 0), (⟨"ResponseTimeGateL6", "gcd", "(II)I"⟩, 0, 0), (⟨"ResponseTimeGateL6", "setC", "(JII)J"⟩, 0, 0), (⟨"ResponseTimeGateL6", "law", "([I)Z"⟩, 4, 70)]
/- scalars: 0=cap 1=count 2=hyper 3=failed 4=staged 5=stT 6=stD 7=stC 8=stP 9=now 10=missCount; arrays: 0=per@1 1=dl@2 2=wc@3 3=pr@4 4=secS@5 5=secL@6 6=bnd@7 7=blk@8 8=ceil@9 9=stS@10 10=stL@11 11=candCeil@12 12=candB@13 13=candR@14 14=pend@15 15=rel@16 16=prog@17 17=held@18 18=done@19 19=maxR@20; longs: []; long arrays: [] -/
def objv (b : Nat) (s : Nat → Int32) : List Value := [.ref (b + 1), .ref (b + 2), .ref (b + 3), .ref (b + 4), .ref (b + 5), .ref (b + 6), .ref (b + 7), .ref (b + 8), .ref (b + 9), .ref (b + 10), .ref (b + 11), .ref (b + 12), .ref (b + 13), .ref (b + 14), .ref (b + 15), .ref (b + 16), .ref (b + 17), .ref (b + 18), .ref (b + 19), .ref (b + 20), .int (s 0), .int (s 1), .int (s 4), .int (s 3), .int (s 2), .int (s 9), .int (s 10), .int (s 5), .int (s 6), .int (s 7), .int (s 8)]
def put (b : Nat) (pre : AHeap) (s : Nat → Int32) (A : Nat → List Int32) (post : AHeap) : AHeap := pad b pre ++ ((.object "ResponseTimeGate", objv b s) :: (.array .int, (A 0).map Value.int) :: (.array .int, (A 1).map Value.int) :: (.array .int, (A 2).map Value.int) :: (.array .int, (A 3).map Value.int) :: (.array .int, (A 4).map Value.int) :: (.array .int, (A 5).map Value.int) :: (.array .int, (A 6).map Value.int) :: (.array .int, (A 7).map Value.int) :: (.array .int, (A 8).map Value.int) :: (.array .int, (A 9).map Value.int) :: (.array .int, (A 10).map Value.int) :: (.array .int, (A 11).map Value.int) :: (.array .int, (A 12).map Value.int) :: (.array .int, (A 13).map Value.int) :: (.array .boolean, (A 14).map Value.int) :: (.array .int, (A 15).map Value.int) :: (.array .int, (A 16).map Value.int) :: (.array .int, (A 17).map Value.int) :: (.array .int, (A 18).map Value.int) :: (.array .int, (A 19).map Value.int) :: post)
theorem put_o {b : Nat} {pre : AHeap} {s : Nat → Int32} {A : Nat → List Int32} {post : AHeap} : (put b pre s A post)[b]? = some (.object "ResponseTimeGate", objv b s) := pad_get0 _ _ _
theorem put_a0 {b : Nat} {pre : AHeap} {s : Nat → Int32} {A : Nat → List Int32} {post : AHeap} : (put b pre s A post)[b + 1]? = some (.array .int, (A 0).map Value.int) := pad_get _ _ _ 1
theorem put_w0 {b : Nat} {pre : AHeap} {s : Nat → Int32} {A : Nat → List Int32} {post : AHeap} {l : List Int32} : (put b pre s A post).set (b + 1) (.array .int, l.map Value.int) = put b pre s (ou A 0 l) post := pad_set _ _ _ 1 _
theorem put_a1 {b : Nat} {pre : AHeap} {s : Nat → Int32} {A : Nat → List Int32} {post : AHeap} : (put b pre s A post)[b + 2]? = some (.array .int, (A 1).map Value.int) := pad_get _ _ _ 2
theorem put_w1 {b : Nat} {pre : AHeap} {s : Nat → Int32} {A : Nat → List Int32} {post : AHeap} {l : List Int32} : (put b pre s A post).set (b + 2) (.array .int, l.map Value.int) = put b pre s (ou A 1 l) post := pad_set _ _ _ 2 _
theorem put_a2 {b : Nat} {pre : AHeap} {s : Nat → Int32} {A : Nat → List Int32} {post : AHeap} : (put b pre s A post)[b + 3]? = some (.array .int, (A 2).map Value.int) := pad_get _ _ _ 3
theorem put_w2 {b : Nat} {pre : AHeap} {s : Nat → Int32} {A : Nat → List Int32} {post : AHeap} {l : List Int32} : (put b pre s A post).set (b + 3) (.array .int, l.map Value.int) = put b pre s (ou A 2 l) post := pad_set _ _ _ 3 _
theorem put_a3 {b : Nat} {pre : AHeap} {s : Nat → Int32} {A : Nat → List Int32} {post : AHeap} : (put b pre s A post)[b + 4]? = some (.array .int, (A 3).map Value.int) := pad_get _ _ _ 4
theorem put_w3 {b : Nat} {pre : AHeap} {s : Nat → Int32} {A : Nat → List Int32} {post : AHeap} {l : List Int32} : (put b pre s A post).set (b + 4) (.array .int, l.map Value.int) = put b pre s (ou A 3 l) post := pad_set _ _ _ 4 _
theorem put_a4 {b : Nat} {pre : AHeap} {s : Nat → Int32} {A : Nat → List Int32} {post : AHeap} : (put b pre s A post)[b + 5]? = some (.array .int, (A 4).map Value.int) := pad_get _ _ _ 5
theorem put_w4 {b : Nat} {pre : AHeap} {s : Nat → Int32} {A : Nat → List Int32} {post : AHeap} {l : List Int32} : (put b pre s A post).set (b + 5) (.array .int, l.map Value.int) = put b pre s (ou A 4 l) post := pad_set _ _ _ 5 _
theorem put_a5 {b : Nat} {pre : AHeap} {s : Nat → Int32} {A : Nat → List Int32} {post : AHeap} : (put b pre s A post)[b + 6]? = some (.array .int, (A 5).map Value.int) := pad_get _ _ _ 6
theorem put_w5 {b : Nat} {pre : AHeap} {s : Nat → Int32} {A : Nat → List Int32} {post : AHeap} {l : List Int32} : (put b pre s A post).set (b + 6) (.array .int, l.map Value.int) = put b pre s (ou A 5 l) post := pad_set _ _ _ 6 _
theorem put_a6 {b : Nat} {pre : AHeap} {s : Nat → Int32} {A : Nat → List Int32} {post : AHeap} : (put b pre s A post)[b + 7]? = some (.array .int, (A 6).map Value.int) := pad_get _ _ _ 7
theorem put_w6 {b : Nat} {pre : AHeap} {s : Nat → Int32} {A : Nat → List Int32} {post : AHeap} {l : List Int32} : (put b pre s A post).set (b + 7) (.array .int, l.map Value.int) = put b pre s (ou A 6 l) post := pad_set _ _ _ 7 _
theorem put_a7 {b : Nat} {pre : AHeap} {s : Nat → Int32} {A : Nat → List Int32} {post : AHeap} : (put b pre s A post)[b + 8]? = some (.array .int, (A 7).map Value.int) := pad_get _ _ _ 8
theorem put_w7 {b : Nat} {pre : AHeap} {s : Nat → Int32} {A : Nat → List Int32} {post : AHeap} {l : List Int32} : (put b pre s A post).set (b + 8) (.array .int, l.map Value.int) = put b pre s (ou A 7 l) post := pad_set _ _ _ 8 _
theorem put_a8 {b : Nat} {pre : AHeap} {s : Nat → Int32} {A : Nat → List Int32} {post : AHeap} : (put b pre s A post)[b + 9]? = some (.array .int, (A 8).map Value.int) := pad_get _ _ _ 9
theorem put_w8 {b : Nat} {pre : AHeap} {s : Nat → Int32} {A : Nat → List Int32} {post : AHeap} {l : List Int32} : (put b pre s A post).set (b + 9) (.array .int, l.map Value.int) = put b pre s (ou A 8 l) post := pad_set _ _ _ 9 _
theorem put_a9 {b : Nat} {pre : AHeap} {s : Nat → Int32} {A : Nat → List Int32} {post : AHeap} : (put b pre s A post)[b + 10]? = some (.array .int, (A 9).map Value.int) := pad_get _ _ _ 10
theorem put_w9 {b : Nat} {pre : AHeap} {s : Nat → Int32} {A : Nat → List Int32} {post : AHeap} {l : List Int32} : (put b pre s A post).set (b + 10) (.array .int, l.map Value.int) = put b pre s (ou A 9 l) post := pad_set _ _ _ 10 _
theorem put_a10 {b : Nat} {pre : AHeap} {s : Nat → Int32} {A : Nat → List Int32} {post : AHeap} : (put b pre s A post)[b + 11]? = some (.array .int, (A 10).map Value.int) := pad_get _ _ _ 11
theorem put_w10 {b : Nat} {pre : AHeap} {s : Nat → Int32} {A : Nat → List Int32} {post : AHeap} {l : List Int32} : (put b pre s A post).set (b + 11) (.array .int, l.map Value.int) = put b pre s (ou A 10 l) post := pad_set _ _ _ 11 _
theorem put_a11 {b : Nat} {pre : AHeap} {s : Nat → Int32} {A : Nat → List Int32} {post : AHeap} : (put b pre s A post)[b + 12]? = some (.array .int, (A 11).map Value.int) := pad_get _ _ _ 12
theorem put_w11 {b : Nat} {pre : AHeap} {s : Nat → Int32} {A : Nat → List Int32} {post : AHeap} {l : List Int32} : (put b pre s A post).set (b + 12) (.array .int, l.map Value.int) = put b pre s (ou A 11 l) post := pad_set _ _ _ 12 _
theorem put_a12 {b : Nat} {pre : AHeap} {s : Nat → Int32} {A : Nat → List Int32} {post : AHeap} : (put b pre s A post)[b + 13]? = some (.array .int, (A 12).map Value.int) := pad_get _ _ _ 13
theorem put_w12 {b : Nat} {pre : AHeap} {s : Nat → Int32} {A : Nat → List Int32} {post : AHeap} {l : List Int32} : (put b pre s A post).set (b + 13) (.array .int, l.map Value.int) = put b pre s (ou A 12 l) post := pad_set _ _ _ 13 _
theorem put_a13 {b : Nat} {pre : AHeap} {s : Nat → Int32} {A : Nat → List Int32} {post : AHeap} : (put b pre s A post)[b + 14]? = some (.array .int, (A 13).map Value.int) := pad_get _ _ _ 14
theorem put_w13 {b : Nat} {pre : AHeap} {s : Nat → Int32} {A : Nat → List Int32} {post : AHeap} {l : List Int32} : (put b pre s A post).set (b + 14) (.array .int, l.map Value.int) = put b pre s (ou A 13 l) post := pad_set _ _ _ 14 _
theorem put_a14 {b : Nat} {pre : AHeap} {s : Nat → Int32} {A : Nat → List Int32} {post : AHeap} : (put b pre s A post)[b + 15]? = some (.array .boolean, (A 14).map Value.int) := pad_get _ _ _ 15
theorem put_w14 {b : Nat} {pre : AHeap} {s : Nat → Int32} {A : Nat → List Int32} {post : AHeap} {l : List Int32} : (put b pre s A post).set (b + 15) (.array .boolean, l.map Value.int) = put b pre s (ou A 14 l) post := pad_set _ _ _ 15 _
theorem put_a15 {b : Nat} {pre : AHeap} {s : Nat → Int32} {A : Nat → List Int32} {post : AHeap} : (put b pre s A post)[b + 16]? = some (.array .int, (A 15).map Value.int) := pad_get _ _ _ 16
theorem put_w15 {b : Nat} {pre : AHeap} {s : Nat → Int32} {A : Nat → List Int32} {post : AHeap} {l : List Int32} : (put b pre s A post).set (b + 16) (.array .int, l.map Value.int) = put b pre s (ou A 15 l) post := pad_set _ _ _ 16 _
theorem put_a16 {b : Nat} {pre : AHeap} {s : Nat → Int32} {A : Nat → List Int32} {post : AHeap} : (put b pre s A post)[b + 17]? = some (.array .int, (A 16).map Value.int) := pad_get _ _ _ 17
theorem put_w16 {b : Nat} {pre : AHeap} {s : Nat → Int32} {A : Nat → List Int32} {post : AHeap} {l : List Int32} : (put b pre s A post).set (b + 17) (.array .int, l.map Value.int) = put b pre s (ou A 16 l) post := pad_set _ _ _ 17 _
theorem put_a17 {b : Nat} {pre : AHeap} {s : Nat → Int32} {A : Nat → List Int32} {post : AHeap} : (put b pre s A post)[b + 18]? = some (.array .int, (A 17).map Value.int) := pad_get _ _ _ 18
theorem put_w17 {b : Nat} {pre : AHeap} {s : Nat → Int32} {A : Nat → List Int32} {post : AHeap} {l : List Int32} : (put b pre s A post).set (b + 18) (.array .int, l.map Value.int) = put b pre s (ou A 17 l) post := pad_set _ _ _ 18 _
theorem put_a18 {b : Nat} {pre : AHeap} {s : Nat → Int32} {A : Nat → List Int32} {post : AHeap} : (put b pre s A post)[b + 19]? = some (.array .int, (A 18).map Value.int) := pad_get _ _ _ 19
theorem put_w18 {b : Nat} {pre : AHeap} {s : Nat → Int32} {A : Nat → List Int32} {post : AHeap} {l : List Int32} : (put b pre s A post).set (b + 19) (.array .int, l.map Value.int) = put b pre s (ou A 18 l) post := pad_set _ _ _ 19 _
theorem put_a19 {b : Nat} {pre : AHeap} {s : Nat → Int32} {A : Nat → List Int32} {post : AHeap} : (put b pre s A post)[b + 20]? = some (.array .int, (A 19).map Value.int) := pad_get _ _ _ 20
theorem put_w19 {b : Nat} {pre : AHeap} {s : Nat → Int32} {A : Nat → List Int32} {post : AHeap} {l : List Int32} : (put b pre s A post).set (b + 20) (.array .int, l.map Value.int) = put b pre s (ou A 19 l) post := pad_set _ _ _ 20 _
theorem put_s0 {b : Nat} {pre : AHeap} {s : Nat → Int32} {A : Nat → List Int32} {post : AHeap} {v : Int32} : (put b pre s A post).set b (.object "ResponseTimeGate", (objv b s).set 20 (.int v)) = put b pre (ou s 0 v) A post := pad_set0 _ _ _ _
theorem put_s1 {b : Nat} {pre : AHeap} {s : Nat → Int32} {A : Nat → List Int32} {post : AHeap} {v : Int32} : (put b pre s A post).set b (.object "ResponseTimeGate", (objv b s).set 21 (.int v)) = put b pre (ou s 1 v) A post := pad_set0 _ _ _ _
theorem put_s4 {b : Nat} {pre : AHeap} {s : Nat → Int32} {A : Nat → List Int32} {post : AHeap} {v : Int32} : (put b pre s A post).set b (.object "ResponseTimeGate", (objv b s).set 22 (.int v)) = put b pre (ou s 4 v) A post := pad_set0 _ _ _ _
theorem put_s3 {b : Nat} {pre : AHeap} {s : Nat → Int32} {A : Nat → List Int32} {post : AHeap} {v : Int32} : (put b pre s A post).set b (.object "ResponseTimeGate", (objv b s).set 23 (.int v)) = put b pre (ou s 3 v) A post := pad_set0 _ _ _ _
theorem put_s2 {b : Nat} {pre : AHeap} {s : Nat → Int32} {A : Nat → List Int32} {post : AHeap} {v : Int32} : (put b pre s A post).set b (.object "ResponseTimeGate", (objv b s).set 24 (.int v)) = put b pre (ou s 2 v) A post := pad_set0 _ _ _ _
theorem put_s9 {b : Nat} {pre : AHeap} {s : Nat → Int32} {A : Nat → List Int32} {post : AHeap} {v : Int32} : (put b pre s A post).set b (.object "ResponseTimeGate", (objv b s).set 25 (.int v)) = put b pre (ou s 9 v) A post := pad_set0 _ _ _ _
theorem put_s10 {b : Nat} {pre : AHeap} {s : Nat → Int32} {A : Nat → List Int32} {post : AHeap} {v : Int32} : (put b pre s A post).set b (.object "ResponseTimeGate", (objv b s).set 26 (.int v)) = put b pre (ou s 10 v) A post := pad_set0 _ _ _ _
theorem put_s5 {b : Nat} {pre : AHeap} {s : Nat → Int32} {A : Nat → List Int32} {post : AHeap} {v : Int32} : (put b pre s A post).set b (.object "ResponseTimeGate", (objv b s).set 27 (.int v)) = put b pre (ou s 5 v) A post := pad_set0 _ _ _ _
theorem put_s6 {b : Nat} {pre : AHeap} {s : Nat → Int32} {A : Nat → List Int32} {post : AHeap} {v : Int32} : (put b pre s A post).set b (.object "ResponseTimeGate", (objv b s).set 28 (.int v)) = put b pre (ou s 6 v) A post := pad_set0 _ _ _ _
theorem put_s7 {b : Nat} {pre : AHeap} {s : Nat → Int32} {A : Nat → List Int32} {post : AHeap} {v : Int32} : (put b pre s A post).set b (.object "ResponseTimeGate", (objv b s).set 29 (.int v)) = put b pre (ou s 7 v) A post := pad_set0 _ _ _ _
theorem put_s8 {b : Nat} {pre : AHeap} {s : Nat → Int32} {A : Nat → List Int32} {post : AHeap} {v : Int32} : (put b pre s A post).set b (.object "ResponseTimeGate", (objv b s).set 30 (.int v)) = put b pre (ou s 8 v) A post := pad_set0 _ _ _ _
theorem put_len {b : Nat} {pre : AHeap} {s : Nat → Int32} {A : Nat → List Int32} {post : AHeap} : (put b pre s A post).length = b + 21 + post.length := by rw [put, List.length_append, pad_len]; simp only [List.length_cons]; omega
theorem inst0 : rInst tables_1 "ResponseTimeGate" = some 31 := by decide +kernel
theorem put_tot {b : Nat} {pre : AHeap} {s : Nat → Int32} {A : Nat → List Int32} {post : AHeap} : tot tables_1 (put b pre s A post) = tot tables_1 (pad b pre) + (31 + ((A 0).length + ((A 1).length + ((A 2).length + ((A 3).length + ((A 4).length + ((A 5).length + ((A 6).length + ((A 7).length + ((A 8).length + ((A 9).length + ((A 10).length + ((A 11).length + ((A 12).length + ((A 13).length + ((A 14).length + ((A 15).length + ((A 16).length + ((A 17).length + ((A 18).length + ((A 19).length + tot tables_1 post))))))))))))))))))))) := by rw [put, tot_append]; simp only [tot_cons, cost, List.length_map, inst0, Option.getD_some]
def D0 : List Value := [.null, .null, .null, .null, .null, .null, .null, .null, .null, .null, .null, .null, .null, .null, .null, .null, .null, .null, .null, .null, .int 0, .int 0, .int 0, .int 0, .int 0, .int 0, .int 0, .int 0, .int 0, .int 0, .int 0]
theorem lay0 : (olay tables_1 "ResponseTimeGate").map dflt = D0 := by decide +kernel
abbrev y0 : MethodName := ⟨"ResponseTimeGate", "<init>", "(I)V"⟩
abbrev kb0 : ByteArray := prog_1_method_1_code
def M0 (pc : Nat) (ls : List Slot) (st : List Value) (H : AHeap) (Q : Option Value → AHeap → Prop) : Prop := W tables_1 dn 1 y0 prog_1_method_1_code none pc ls st H Q
abbrev y1 : MethodName := ⟨"ResponseTimeGate", "resetSim", "()V"⟩
abbrev kb1 : ByteArray := prog_1_method_23_code
def M1 (pc : Nat) (ls : List Slot) (st : List Value) (H : AHeap) (Q : Option Value → AHeap → Prop) : Prop := W tables_1 dn 1 y1 prog_1_method_23_code none pc ls st H Q
abbrev y2 : MethodName := ⟨"ResponseTimeGate", "commitTask", "()I"⟩
abbrev kb2 : ByteArray := prog_1_method_6_code
def M2 (pc : Nat) (ls : List Slot) (st : List Value) (H : AHeap) (Q : Option Value → AHeap → Prop) : Prop := W tables_1 dn 1 y2 prog_1_method_6_code (some .int) pc ls st H Q
abbrev y3 : MethodName := ⟨"ResponseTimeGate", "misses", "()I"⟩
abbrev kb3 : ByteArray := prog_1_method_36_code
def M3 (pc : Nat) (ls : List Slot) (st : List Value) (H : AHeap) (Q : Option Value → AHeap → Prop) : Prop := W tables_1 dn 1 y3 prog_1_method_36_code (some .int) pc ls st H Q
abbrev y4 : MethodName := ⟨"ResponseTimeGate", "taskCount", "()I"⟩
abbrev kb4 : ByteArray := prog_1_method_17_code
def M4 (pc : Nat) (ls : List Slot) (st : List Value) (H : AHeap) (Q : Option Value → AHeap → Prop) : Prop := W tables_1 dn 1 y4 prog_1_method_17_code (some .int) pc ls st H Q
abbrev y5 : MethodName := ⟨"ResponseTimeGate", "hyperperiod", "()I"⟩
abbrev kb5 : ByteArray := prog_1_method_21_code
def M5 (pc : Nat) (ls : List Slot) (st : List Value) (H : AHeap) (Q : Option Value → AHeap → Prop) : Prop := W tables_1 dn 1 y5 prog_1_method_21_code (some .int) pc ls st H Q
abbrev y6 : MethodName := ⟨"ResponseTimeGate", "failedTask", "()I"⟩
abbrev kb6 : ByteArray := prog_1_method_22_code
def M6 (pc : Nat) (ls : List Slot) (st : List Value) (H : AHeap) (Q : Option Value → AHeap → Prop) : Prop := W tables_1 dn 1 y6 prog_1_method_22_code (some .int) pc ls st H Q
abbrev y7 : MethodName := ⟨"ResponseTimeGate", "time", "()I"⟩
abbrev kb7 : ByteArray := prog_1_method_33_code
def M7 (pc : Nat) (ls : List Slot) (st : List Value) (H : AHeap) (Q : Option Value → AHeap → Prop) : Prop := W tables_1 dn 1 y7 prog_1_method_33_code (some .int) pc ls st H Q
abbrev y8 : MethodName := ⟨"ResponseTimeGate", "bound", "(I)I"⟩
abbrev kb8 : ByteArray := prog_1_method_18_code
def M8 (pc : Nat) (ls : List Slot) (st : List Value) (H : AHeap) (Q : Option Value → AHeap → Prop) : Prop := W tables_1 dn 1 y8 prog_1_method_18_code (some .int) pc ls st H Q
abbrev y9 : MethodName := ⟨"ResponseTimeGate", "admitted", "(I)Z"⟩
abbrev kb9 : ByteArray := prog_1_method_16_code
def M9 (pc : Nat) (ls : List Slot) (st : List Value) (H : AHeap) (Q : Option Value → AHeap → Prop) : Prop := W tables_1 dn 1 y9 prog_1_method_16_code (some .boolean) pc ls st H Q
abbrev y10 : MethodName := ⟨"ResponseTimeGate", "jobsDone", "(I)I"⟩
abbrev kb10 : ByteArray := prog_1_method_35_code
def M10 (pc : Nat) (ls : List Slot) (st : List Value) (H : AHeap) (Q : Option Value → AHeap → Prop) : Prop := W tables_1 dn 1 y10 prog_1_method_35_code (some .int) pc ls st H Q
abbrev y11 : MethodName := ⟨"ResponseTimeGate", "ceiling", "(I)I"⟩
abbrev kb11 : ByteArray := prog_1_method_20_code
def M11 (pc : Nat) (ls : List Slot) (st : List Value) (H : AHeap) (Q : Option Value → AHeap → Prop) : Prop := W tables_1 dn 1 y11 prog_1_method_20_code (some .int) pc ls st H Q
abbrev y12 : MethodName := ⟨"ResponseTimeGate", "addSection", "(III)I"⟩
abbrev kb12 : ByteArray := prog_1_method_4_code
def M12 (pc : Nat) (ls : List Slot) (st : List Value) (H : AHeap) (Q : Option Value → AHeap → Prop) : Prop := W tables_1 dn 1 y12 prog_1_method_4_code (some .int) pc ls st H Q
abbrev y13 : MethodName := ⟨"ResponseTimeGate", "beginTask", "(IIII)I"⟩
abbrev kb13 : ByteArray := prog_1_method_2_code
def M13 (pc : Nat) (ls : List Slot) (st : List Value) (H : AHeap) (Q : Option Value → AHeap → Prop) : Prop := W tables_1 dn 1 y13 prog_1_method_2_code (some .int) pc ls st H Q
abbrev y14 : MethodName := ⟨"ResponseTimeGate", "priorityTaken", "(I)Z"⟩
abbrev kb14 : ByteArray := prog_1_method_3_code
def M14 (pc : Nat) (ls : List Slot) (st : List Value) (H : AHeap) (Q : Option Value → AHeap → Prop) : Prop := W tables_1 dn 1 y14 prog_1_method_3_code (some .boolean) pc ls st H Q
abbrev y15 : MethodName := ⟨"ResponseTimeGate", "overlapsStaged", "(II)Z"⟩
abbrev kb15 : ByteArray := prog_1_method_5_code
def M15 (pc : Nat) (ls : List Slot) (st : List Value) (H : AHeap) (Q : Option Value → AHeap → Prop) : Prop := W tables_1 dn 1 y15 prog_1_method_5_code (some .boolean) pc ls st H Q
abbrev y16 : MethodName := ⟨"ResponseTimeGate", "lcmWith", "(II)I"⟩
abbrev kb16 : ByteArray := prog_1_method_10_code
def M16 (pc : Nat) (ls : List Slot) (st : List Value) (H : AHeap) (Q : Option Value → AHeap → Prop) : Prop := W tables_1 dn 1 y16 prog_1_method_10_code (some .int) pc ls st H Q
abbrev y17 : MethodName := ⟨"ResponseTimeGate", "gcd", "(II)I"⟩
abbrev kb17 : ByteArray := prog_1_method_9_code
def M17 (pc : Nat) (ls : List Slot) (st : List Value) (H : AHeap) (Q : Option Value → AHeap → Prop) : Prop := W tables_1 dn 1 y17 prog_1_method_9_code (some .int) pc ls st H Q
abbrev y18 : MethodName := ⟨"ResponseTimeGate", "placeStaged", "(I)V"⟩
abbrev kb18 : ByteArray := prog_1_method_7_code
def M18 (pc : Nat) (ls : List Slot) (st : List Value) (H : AHeap) (Q : Option Value → AHeap → Prop) : Prop := W tables_1 dn 1 y18 prog_1_method_7_code none pc ls st H Q
abbrev y19 : MethodName := ⟨"ResponseTimeGate", "analyze", "(I)I"⟩
abbrev kb19 : ByteArray := prog_1_method_11_code
def M19 (pc : Nat) (ls : List Slot) (st : List Value) (H : AHeap) (Q : Option Value → AHeap → Prop) : Prop := W tables_1 dn 1 y19 prog_1_method_11_code (some .int) pc ls st H Q
abbrev y20 : MethodName := ⟨"ResponseTimeGate", "computeCeilings", "(I)V"⟩
abbrev kb20 : ByteArray := prog_1_method_12_code
def M20 (pc : Nat) (ls : List Slot) (st : List Value) (H : AHeap) (Q : Option Value → AHeap → Prop) : Prop := W tables_1 dn 1 y20 prog_1_method_12_code none pc ls st H Q
abbrev y21 : MethodName := ⟨"ResponseTimeGate", "blockingOf", "(II)I"⟩
abbrev kb21 : ByteArray := prog_1_method_13_code
def M21 (pc : Nat) (ls : List Slot) (st : List Value) (H : AHeap) (Q : Option Value → AHeap → Prop) : Prop := W tables_1 dn 1 y21 prog_1_method_13_code (some .int) pc ls st H Q
abbrev y22 : MethodName := ⟨"ResponseTimeGate", "responseOf", "(III)I"⟩
abbrev kb22 : ByteArray := prog_1_method_14_code
def M22 (pc : Nat) (ls : List Slot) (st : List Value) (H : AHeap) (Q : Option Value → AHeap → Prop) : Prop := W tables_1 dn 1 y22 prog_1_method_14_code (some .int) pc ls st H Q
abbrev y23 : MethodName := ⟨"ResponseTimeGate", "interference", "(III)I"⟩
abbrev kb23 : ByteArray := prog_1_method_15_code
def M23 (pc : Nat) (ls : List Slot) (st : List Value) (H : AHeap) (Q : Option Value → AHeap → Prop) : Prop := W tables_1 dn 1 y23 prog_1_method_15_code (some .int) pc ls st H Q
abbrev y24 : MethodName := ⟨"ResponseTimeGate", "adoptResults", "(I)V"⟩
abbrev kb24 : ByteArray := prog_1_method_8_code
def M24 (pc : Nat) (ls : List Slot) (st : List Value) (H : AHeap) (Q : Option Value → AHeap → Prop) : Prop := W tables_1 dn 1 y24 prog_1_method_8_code none pc ls st H Q
abbrev y25 : MethodName := ⟨"ResponseTimeGate", "run", "(I)I"⟩
abbrev kb25 : ByteArray := prog_1_method_24_code
def M25 (pc : Nat) (ls : List Slot) (st : List Value) (H : AHeap) (Q : Option Value → AHeap → Prop) : Prop := W tables_1 dn 1 y25 prog_1_method_24_code (some .int) pc ls st H Q
abbrev y26 : MethodName := ⟨"ResponseTimeGate", "tick", "()V"⟩
abbrev kb26 : ByteArray := prog_1_method_25_code
def M26 (pc : Nat) (ls : List Slot) (st : List Value) (H : AHeap) (Q : Option Value → AHeap → Prop) : Prop := W tables_1 dn 1 y26 prog_1_method_25_code none pc ls st H Q
abbrev y27 : MethodName := ⟨"ResponseTimeGate", "releaseJobs", "()V"⟩
abbrev kb27 : ByteArray := prog_1_method_26_code
def M27 (pc : Nat) (ls : List Slot) (st : List Value) (H : AHeap) (Q : Option Value → AHeap → Prop) : Prop := W tables_1 dn 1 y27 prog_1_method_26_code none pc ls st H Q
abbrev y28 : MethodName := ⟨"ResponseTimeGate", "pickRunning", "()I"⟩
abbrev kb28 : ByteArray := prog_1_method_28_code
def M28 (pc : Nat) (ls : List Slot) (st : List Value) (H : AHeap) (Q : Option Value → AHeap → Prop) : Prop := W tables_1 dn 1 y28 prog_1_method_28_code (some .int) pc ls st H Q
abbrev y29 : MethodName := ⟨"ResponseTimeGate", "activePriority", "(I)I"⟩
abbrev kb29 : ByteArray := prog_1_method_27_code
def M29 (pc : Nat) (ls : List Slot) (st : List Value) (H : AHeap) (Q : Option Value → AHeap → Prop) : Prop := W tables_1 dn 1 y29 prog_1_method_27_code (some .int) pc ls st H Q
abbrev y30 : MethodName := ⟨"ResponseTimeGate", "executeUnit", "(I)V"⟩
abbrev kb30 : ByteArray := prog_1_method_30_code
def M30 (pc : Nat) (ls : List Slot) (st : List Value) (H : AHeap) (Q : Option Value → AHeap → Prop) : Prop := W tables_1 dn 1 y30 prog_1_method_30_code none pc ls st H Q
abbrev y31 : MethodName := ⟨"ResponseTimeGate", "takeResourceIfStart", "(I)V"⟩
abbrev kb31 : ByteArray := prog_1_method_29_code
def M31 (pc : Nat) (ls : List Slot) (st : List Value) (H : AHeap) (Q : Option Value → AHeap → Prop) : Prop := W tables_1 dn 1 y31 prog_1_method_29_code none pc ls st H Q
abbrev y32 : MethodName := ⟨"ResponseTimeGate", "checkMisses", "()V"⟩
abbrev kb32 : ByteArray := prog_1_method_32_code
def M32 (pc : Nat) (ls : List Slot) (st : List Value) (H : AHeap) (Q : Option Value → AHeap → Prop) : Prop := W tables_1 dn 1 y32 prog_1_method_32_code none pc ls st H Q
abbrev y33 : MethodName := ⟨"ResponseTimeGate", "completeJob", "(I)V"⟩
abbrev kb33 : ByteArray := prog_1_method_31_code
def M33 (pc : Nat) (ls : List Slot) (st : List Value) (H : AHeap) (Q : Option Value → AHeap → Prop) : Prop := W tables_1 dn 1 y33 prog_1_method_31_code none pc ls st H Q
abbrev y34 : MethodName := ⟨"ResponseTimeGateL6", "getC", "(JI)I"⟩
abbrev kb34 : ByteArray := method_4_code
def M34 (pc : Nat) (ls : List Slot) (st : List Value) (H : AHeap) (Q : Option Value → AHeap → Prop) : Prop := W tables_1 dn 1 y34 method_4_code (some .int) pc ls st H Q
abbrev y35 : MethodName := ⟨"ResponseTimeGateL6", "gcd", "(II)I"⟩
abbrev kb35 : ByteArray := method_3_code
def M35 (pc : Nat) (ls : List Slot) (st : List Value) (H : AHeap) (Q : Option Value → AHeap → Prop) : Prop := W tables_1 dn 1 y35 method_3_code (some .int) pc ls st H Q
abbrev y36 : MethodName := ⟨"ResponseTimeGateL6", "setC", "(JII)J"⟩
abbrev kb36 : ByteArray := method_5_code
def M36 (pc : Nat) (ls : List Slot) (st : List Value) (H : AHeap) (Q : Option Value → AHeap → Prop) : Prop := W tables_1 dn 1 y36 method_5_code (some .long) pc ls st H Q
abbrev y37 : MethodName := ⟨"ResponseTimeGateL6", "law", "([I)Z"⟩
abbrev kb37 : ByteArray := code
def M37 (pc : Nat) (ls : List Slot) (st : List Value) (H : AHeap) (Q : Option Value → AHeap → Prop) : Prop := W tables_1 dn 1 y37 code (some .boolean) pc ls st H Q
theorem dn_0 : dnOf dn y0 = some (1, 13) := by decide +kernel
theorem rc_0 : rCode tables_1 y0 = some (prog_1_method_1_code, 4, none) := rCode_of (i := 5) rfl (by decide +kernel)
theorem dn_1 : dnOf dn y1 = some (0, 0) := by decide +kernel
theorem rc_1 : rCode tables_1 y1 = some (prog_1_method_23_code, 2, none) := rCode_of (i := 64) rfl (by decide +kernel)
theorem dn_2 : dnOf dn y2 = some (3, 55) := by decide +kernel
theorem rc_2 : rCode tables_1 y2 = some (prog_1_method_6_code, 4, some .int) := rCode_of (i := 73) rfl (by decide +kernel)
theorem dn_3 : dnOf dn y3 = some (0, 0) := by decide +kernel
theorem rc_3 : rCode tables_1 y3 = some (prog_1_method_36_code, 1, some .int) := rCode_of (i := 78) rfl (by decide +kernel)
theorem dn_4 : dnOf dn y4 = some (0, 0) := by decide +kernel
theorem rc_4 : rCode tables_1 y4 = some (prog_1_method_17_code, 1, some .int) := rCode_of (i := 83) rfl (by decide +kernel)
theorem dn_5 : dnOf dn y5 = some (0, 0) := by decide +kernel
theorem rc_5 : rCode tables_1 y5 = some (prog_1_method_21_code, 1, some .int) := rCode_of (i := 88) rfl (by decide +kernel)
theorem dn_6 : dnOf dn y6 = some (0, 0) := by decide +kernel
theorem rc_6 : rCode tables_1 y6 = some (prog_1_method_22_code, 1, some .int) := rCode_of (i := 93) rfl (by decide +kernel)
theorem dn_7 : dnOf dn y7 = some (0, 0) := by decide +kernel
theorem rc_7 : rCode tables_1 y7 = some (prog_1_method_33_code, 1, some .int) := rCode_of (i := 98) rfl (by decide +kernel)
theorem dn_8 : dnOf dn y8 = some (1, 13) := by decide +kernel
theorem rc_8 : rCode tables_1 y8 = some (prog_1_method_18_code, 2, some .int) := rCode_of (i := 103) rfl (by decide +kernel)
theorem dn_9 : dnOf dn y9 = some (0, 0) := by decide +kernel
theorem rc_9 : rCode tables_1 y9 = some (prog_1_method_16_code, 2, some .boolean) := rCode_of (i := 107) rfl (by decide +kernel)
theorem dn_10 : dnOf dn y10 = some (1, 13) := by decide +kernel
theorem rc_10 : rCode tables_1 y10 = some (prog_1_method_35_code, 2, some .int) := rCode_of (i := 112) rfl (by decide +kernel)
theorem dn_11 : dnOf dn y11 = some (0, 0) := by decide +kernel
theorem rc_11 : rCode tables_1 y11 = some (prog_1_method_20_code, 2, some .int) := rCode_of (i := 117) rfl (by decide +kernel)
theorem dn_12 : dnOf dn y12 = some (1, 17) := by decide +kernel
theorem rc_12 : rCode tables_1 y12 = some (prog_1_method_4_code, 4, some .int) := rCode_of (i := 127) rfl (by decide +kernel)
theorem dn_13 : dnOf dn y13 = some (1, 14) := by decide +kernel
theorem rc_13 : rCode tables_1 y13 = some (prog_1_method_2_code, 6, some .int) := rCode_of (i := 132) rfl (by decide +kernel)
theorem dn_14 : dnOf dn y14 = some (0, 0) := by decide +kernel
theorem rc_14 : rCode tables_1 y14 = some (prog_1_method_3_code, 3, some .boolean) := rCode_of (i := 136) rfl (by decide +kernel)
theorem dn_15 : dnOf dn y15 = some (0, 0) := by decide +kernel
theorem rc_15 : rCode tables_1 y15 = some (prog_1_method_5_code, 6, some .boolean) := rCode_of (i := 148) rfl (by decide +kernel)
theorem dn_16 : dnOf dn y16 = some (1, 18) := by decide +kernel
theorem rc_16 : rCode tables_1 y16 = some (prog_1_method_10_code, 4, some .int) := rCode_of (i := 152) rfl (by decide +kernel)
theorem dn_17 : dnOf dn y17 = some (0, 0) := by decide +kernel
theorem rc_17 : rCode tables_1 y17 = some (prog_1_method_9_code, 7, some .int) := rCode_of (i := 156) rfl (by decide +kernel)
theorem dn_18 : dnOf dn y18 = some (0, 0) := by decide +kernel
theorem rc_18 : rCode tables_1 y18 = some (prog_1_method_7_code, 3, none) := rCode_of (i := 160) rfl (by decide +kernel)
theorem dn_19 : dnOf dn y19 = some (2, 39) := by decide +kernel
theorem rc_19 : rCode tables_1 y19 = some (prog_1_method_11_code, 5, some .int) := rCode_of (i := 164) rfl (by decide +kernel)
theorem dn_20 : dnOf dn y20 = some (0, 0) := by decide +kernel
theorem rc_20 : rCode tables_1 y20 = some (prog_1_method_12_code, 5, none) := rCode_of (i := 168) rfl (by decide +kernel)
theorem dn_21 : dnOf dn y21 = some (0, 0) := by decide +kernel
theorem rc_21 : rCode tables_1 y21 = some (prog_1_method_13_code, 8, some .int) := rCode_of (i := 172) rfl (by decide +kernel)
theorem dn_22 : dnOf dn y22 = some (1, 20) := by decide +kernel
theorem rc_22 : rCode tables_1 y22 = some (prog_1_method_14_code, 8, some .int) := rCode_of (i := 176) rfl (by decide +kernel)
theorem dn_23 : dnOf dn y23 = some (0, 0) := by decide +kernel
theorem rc_23 : rCode tables_1 y23 = some (prog_1_method_15_code, 8, some .int) := rCode_of (i := 180) rfl (by decide +kernel)
theorem dn_24 : dnOf dn y24 = some (0, 0) := by decide +kernel
theorem rc_24 : rCode tables_1 y24 = some (prog_1_method_8_code, 3, none) := rCode_of (i := 184) rfl (by decide +kernel)
theorem dn_25 : dnOf dn y25 = some (3, 45) := by decide +kernel
theorem rc_25 : rCode tables_1 y25 = some (prog_1_method_24_code, 4, some .int) := rCode_of (i := 192) rfl (by decide +kernel)
theorem dn_26 : dnOf dn y26 = some (2, 32) := by decide +kernel
theorem rc_26 : rCode tables_1 y26 = some (prog_1_method_25_code, 2, none) := rCode_of (i := 196) rfl (by decide +kernel)
theorem dn_27 : dnOf dn y27 = some (0, 0) := by decide +kernel
theorem rc_27 : rCode tables_1 y27 = some (prog_1_method_26_code, 3, none) := rCode_of (i := 200) rfl (by decide +kernel)
theorem dn_28 : dnOf dn y28 = some (1, 14) := by decide +kernel
theorem rc_28 : rCode tables_1 y28 = some (prog_1_method_28_code, 7, some .int) := rCode_of (i := 204) rfl (by decide +kernel)
theorem dn_29 : dnOf dn y29 = some (0, 0) := by decide +kernel
theorem rc_29 : rCode tables_1 y29 = some (prog_1_method_27_code, 3, some .int) := rCode_of (i := 208) rfl (by decide +kernel)
theorem dn_30 : dnOf dn y30 = some (1, 14) := by decide +kernel
theorem rc_30 : rCode tables_1 y30 = some (prog_1_method_30_code, 3, none) := rCode_of (i := 212) rfl (by decide +kernel)
theorem dn_31 : dnOf dn y31 = some (0, 0) := by decide +kernel
theorem rc_31 : rCode tables_1 y31 = some (prog_1_method_29_code, 3, none) := rCode_of (i := 216) rfl (by decide +kernel)
theorem dn_32 : dnOf dn y32 = some (0, 0) := by decide +kernel
theorem rc_32 : rCode tables_1 y32 = some (prog_1_method_32_code, 2, none) := rCode_of (i := 220) rfl (by decide +kernel)
theorem dn_33 : dnOf dn y33 = some (0, 0) := by decide +kernel
theorem rc_33 : rCode tables_1 y33 = some (prog_1_method_31_code, 3, none) := rCode_of (i := 224) rfl (by decide +kernel)
theorem dn_34 : dnOf dn y34 = some (0, 0) := by decide +kernel
theorem rc_34 : rCode tables_1 y34 = some (method_4_code, 3, some .int) := rCode_of (i := 121) rfl (by decide +kernel)
theorem dn_35 : dnOf dn y35 = some (0, 0) := by decide +kernel
theorem rc_35 : rCode tables_1 y35 = some (method_3_code, 4, some .int) := rCode_of (i := 187) rfl (by decide +kernel)
theorem dn_36 : dnOf dn y36 = some (0, 0) := by decide +kernel
theorem rc_36 : rCode tables_1 y36 = some (method_5_code, 4, some .long) := rCode_of (i := 227) rfl (by decide +kernel)
theorem dn_37 : dnOf dn y37 = some (4, 70) := by decide +kernel
theorem gf_7 : gfR tables_1 "ResponseTimeGate" 7 = some ("ResponseTimeGate", 0) := by decide +kernel
theorem gf_13 : gfR tables_1 "ResponseTimeGate" 13 = some ("ResponseTimeGate", 1) := by decide +kernel
theorem gf_16 : gfR tables_1 "ResponseTimeGate" 16 = some ("ResponseTimeGate", 2) := by decide +kernel
theorem gf_19 : gfR tables_1 "ResponseTimeGate" 19 = some ("ResponseTimeGate", 3) := by decide +kernel
theorem gf_22 : gfR tables_1 "ResponseTimeGate" 22 = some ("ResponseTimeGate", 4) := by decide +kernel
theorem gf_25 : gfR tables_1 "ResponseTimeGate" 25 = some ("ResponseTimeGate", 5) := by decide +kernel
theorem gf_28 : gfR tables_1 "ResponseTimeGate" 28 = some ("ResponseTimeGate", 6) := by decide +kernel
theorem gf_31 : gfR tables_1 "ResponseTimeGate" 31 = some ("ResponseTimeGate", 7) := by decide +kernel
theorem gf_34 : gfR tables_1 "ResponseTimeGate" 34 = some ("ResponseTimeGate", 8) := by decide +kernel
theorem gf_37 : gfR tables_1 "ResponseTimeGate" 37 = some ("ResponseTimeGate", 9) := by decide +kernel
theorem gf_40 : gfR tables_1 "ResponseTimeGate" 40 = some ("ResponseTimeGate", 10) := by decide +kernel
theorem gf_43 : gfR tables_1 "ResponseTimeGate" 43 = some ("ResponseTimeGate", 11) := by decide +kernel
theorem gf_46 : gfR tables_1 "ResponseTimeGate" 46 = some ("ResponseTimeGate", 12) := by decide +kernel
theorem gf_49 : gfR tables_1 "ResponseTimeGate" 49 = some ("ResponseTimeGate", 13) := by decide +kernel
theorem gf_52 : gfR tables_1 "ResponseTimeGate" 52 = some ("ResponseTimeGate", 14) := by decide +kernel
theorem gf_56 : gfR tables_1 "ResponseTimeGate" 56 = some ("ResponseTimeGate", 15) := by decide +kernel
theorem gf_59 : gfR tables_1 "ResponseTimeGate" 59 = some ("ResponseTimeGate", 16) := by decide +kernel
theorem gf_62 : gfR tables_1 "ResponseTimeGate" 62 = some ("ResponseTimeGate", 17) := by decide +kernel
theorem gf_65 : gfR tables_1 "ResponseTimeGate" 65 = some ("ResponseTimeGate", 18) := by decide +kernel
theorem gf_68 : gfR tables_1 "ResponseTimeGate" 68 = some ("ResponseTimeGate", 19) := by decide +kernel
theorem gf_71 : gfR tables_1 "ResponseTimeGate" 71 = some ("ResponseTimeGate", 20) := by decide +kernel
theorem gf_75 : gfR tables_1 "ResponseTimeGate" 75 = some ("ResponseTimeGate", 21) := by decide +kernel
theorem gf_78 : gfR tables_1 "ResponseTimeGate" 78 = some ("ResponseTimeGate", 22) := by decide +kernel
theorem gf_82 : gfR tables_1 "ResponseTimeGate" 82 = some ("ResponseTimeGate", 23) := by decide +kernel
theorem gf_85 : gfR tables_1 "ResponseTimeGate" 85 = some ("ResponseTimeGate", 24) := by decide +kernel
theorem gf_95 : gfR tables_1 "ResponseTimeGate" 95 = some ("ResponseTimeGate", 27) := by decide +kernel
theorem gf_98 : gfR tables_1 "ResponseTimeGate" 98 = some ("ResponseTimeGate", 28) := by decide +kernel
theorem gf_101 : gfR tables_1 "ResponseTimeGate" 101 = some ("ResponseTimeGate", 29) := by decide +kernel
theorem gf_104 : gfR tables_1 "ResponseTimeGate" 104 = some ("ResponseTimeGate", 30) := by decide +kernel
theorem gf_145 : gfR tables_1 "ResponseTimeGate" 145 = some ("ResponseTimeGate", 25) := by decide +kernel
theorem gf_148 : gfR tables_1 "ResponseTimeGate" 148 = some ("ResponseTimeGate", 26) := by decide +kernel
section Rules
variable {b r q : Nat} {pre : AHeap} {s : Nat → Int32} {A : Nat → List Int32} {post : AHeap} {ls : List Slot} {st : List Value} {H R : AHeap} {Q : Option Value → AHeap → Prop} {x y v z j : Int32} {J1 J2 : Int64} {sc : List Int32} {l0 l1 l2 l3 l4 l5 l6 l7 l8 l9 l10 l11 l12 l13 l14 l15 l16 l17 l18 l19 l20 l21 l22 l23 l24 l25 l26 l27 l28 l29 l30 l31 l32 : Slot}
theorem m0_0 : M0 0 [.val (.ref r), l1, l2, l3] st H Q = M0 1 [.val (.ref r), l1, l2, l3] (.ref r :: st) H Q := w_x (show decode kb0 0 = .ok (.aload_n 0, 1) from by decide +kernel) rfl
theorem m0_1 : M0 1 ls [.ref r] H Q = M0 4 ls [] H Q := w_obj (show decode kb0 1 = .ok (.invokespecial 1, 3) from by decide +kernel) (sl := 1) (by decide +kernel) (by decide)
theorem m0_4 : M0 4 [.val (.ref r), l1, l2, l3] st H Q = M0 5 [.val (.ref r), l1, l2, l3] (.ref r :: st) H Q := w_x (show decode kb0 4 = .ok (.aload_n 0, 1) from by decide +kernel) rfl
theorem m0_5 : M0 5 ls st H Q = M0 7 ls (.int 9 :: st) H Q := w_con (show decode kb0 5 = .ok (.bipush 9, 2) from by decide +kernel) rfl (by decide)
theorem m0_12 : M0 12 [.val (.ref r), l1, l2, l3] st H Q = M0 13 [.val (.ref r), l1, l2, l3] (.ref r :: st) H Q := w_x (show decode kb0 12 = .ok (.aload_n 0, 1) from by decide +kernel) rfl
theorem m0_13 : M0 13 ls st H Q = M0 15 ls (.int 9 :: st) H Q := w_con (show decode kb0 13 = .ok (.bipush 9, 2) from by decide +kernel) rfl (by decide)
theorem m0_20 : M0 20 [.val (.ref r), l1, l2, l3] st H Q = M0 21 [.val (.ref r), l1, l2, l3] (.ref r :: st) H Q := w_x (show decode kb0 20 = .ok (.aload_n 0, 1) from by decide +kernel) rfl
theorem m0_21 : M0 21 ls st H Q = M0 23 ls (.int 9 :: st) H Q := w_con (show decode kb0 21 = .ok (.bipush 9, 2) from by decide +kernel) rfl (by decide)
theorem m0_28 : M0 28 [.val (.ref r), l1, l2, l3] st H Q = M0 29 [.val (.ref r), l1, l2, l3] (.ref r :: st) H Q := w_x (show decode kb0 28 = .ok (.aload_n 0, 1) from by decide +kernel) rfl
theorem m0_29 : M0 29 ls st H Q = M0 31 ls (.int 9 :: st) H Q := w_con (show decode kb0 29 = .ok (.bipush 9, 2) from by decide +kernel) rfl (by decide)
theorem m0_36 : M0 36 [.val (.ref r), l1, l2, l3] st H Q = M0 37 [.val (.ref r), l1, l2, l3] (.ref r :: st) H Q := w_x (show decode kb0 36 = .ok (.aload_n 0, 1) from by decide +kernel) rfl
theorem m0_37 : M0 37 ls st H Q = M0 39 ls (.int 36 :: st) H Q := w_con (show decode kb0 37 = .ok (.bipush 36, 2) from by decide +kernel) rfl (by decide)
theorem m0_44 : M0 44 [.val (.ref r), l1, l2, l3] st H Q = M0 45 [.val (.ref r), l1, l2, l3] (.ref r :: st) H Q := w_x (show decode kb0 44 = .ok (.aload_n 0, 1) from by decide +kernel) rfl
theorem m0_45 : M0 45 ls st H Q = M0 47 ls (.int 36 :: st) H Q := w_con (show decode kb0 45 = .ok (.bipush 36, 2) from by decide +kernel) rfl (by decide)
theorem m0_52 : M0 52 [.val (.ref r), l1, l2, l3] st H Q = M0 53 [.val (.ref r), l1, l2, l3] (.ref r :: st) H Q := w_x (show decode kb0 52 = .ok (.aload_n 0, 1) from by decide +kernel) rfl
theorem m0_53 : M0 53 ls st H Q = M0 55 ls (.int 9 :: st) H Q := w_con (show decode kb0 53 = .ok (.bipush 9, 2) from by decide +kernel) rfl (by decide)
theorem m0_60 : M0 60 [.val (.ref r), l1, l2, l3] st H Q = M0 61 [.val (.ref r), l1, l2, l3] (.ref r :: st) H Q := w_x (show decode kb0 60 = .ok (.aload_n 0, 1) from by decide +kernel) rfl
theorem m0_61 : M0 61 ls st H Q = M0 63 ls (.int 9 :: st) H Q := w_con (show decode kb0 61 = .ok (.bipush 9, 2) from by decide +kernel) rfl (by decide)
theorem m0_68 : M0 68 [.val (.ref r), l1, l2, l3] st H Q = M0 69 [.val (.ref r), l1, l2, l3] (.ref r :: st) H Q := w_x (show decode kb0 68 = .ok (.aload_n 0, 1) from by decide +kernel) rfl
theorem m0_69 : M0 69 ls st H Q = M0 70 ls (.int 4 :: st) H Q := w_con (show decode kb0 69 = .ok (.iconst 4, 1) from by decide +kernel) rfl (by decide)
theorem m0_75 : M0 75 [.val (.ref r), l1, l2, l3] st H Q = M0 76 [.val (.ref r), l1, l2, l3] (.ref r :: st) H Q := w_x (show decode kb0 75 = .ok (.aload_n 0, 1) from by decide +kernel) rfl
theorem m0_76 : M0 76 ls st H Q = M0 77 ls (.int 4 :: st) H Q := w_con (show decode kb0 76 = .ok (.iconst 4, 1) from by decide +kernel) rfl (by decide)
theorem m0_82 : M0 82 [.val (.ref r), l1, l2, l3] st H Q = M0 83 [.val (.ref r), l1, l2, l3] (.ref r :: st) H Q := w_x (show decode kb0 82 = .ok (.aload_n 0, 1) from by decide +kernel) rfl
theorem m0_83 : M0 83 ls st H Q = M0 84 ls (.int 4 :: st) H Q := w_con (show decode kb0 83 = .ok (.iconst 4, 1) from by decide +kernel) rfl (by decide)
theorem m0_89 : M0 89 [.val (.ref r), l1, l2, l3] st H Q = M0 90 [.val (.ref r), l1, l2, l3] (.ref r :: st) H Q := w_x (show decode kb0 89 = .ok (.aload_n 0, 1) from by decide +kernel) rfl
theorem m0_90 : M0 90 ls st H Q = M0 91 ls (.int 4 :: st) H Q := w_con (show decode kb0 90 = .ok (.iconst 4, 1) from by decide +kernel) rfl (by decide)
theorem m0_96 : M0 96 [.val (.ref r), l1, l2, l3] st H Q = M0 97 [.val (.ref r), l1, l2, l3] (.ref r :: st) H Q := w_x (show decode kb0 96 = .ok (.aload_n 0, 1) from by decide +kernel) rfl
theorem m0_97 : M0 97 ls st H Q = M0 99 ls (.int 9 :: st) H Q := w_con (show decode kb0 97 = .ok (.bipush 9, 2) from by decide +kernel) rfl (by decide)
theorem m0_104 : M0 104 [.val (.ref r), l1, l2, l3] st H Q = M0 105 [.val (.ref r), l1, l2, l3] (.ref r :: st) H Q := w_x (show decode kb0 104 = .ok (.aload_n 0, 1) from by decide +kernel) rfl
theorem m0_105 : M0 105 ls st H Q = M0 107 ls (.int 9 :: st) H Q := w_con (show decode kb0 105 = .ok (.bipush 9, 2) from by decide +kernel) rfl (by decide)
theorem m0_112 : M0 112 [.val (.ref r), l1, l2, l3] st H Q = M0 113 [.val (.ref r), l1, l2, l3] (.ref r :: st) H Q := w_x (show decode kb0 112 = .ok (.aload_n 0, 1) from by decide +kernel) rfl
theorem m0_113 : M0 113 ls st H Q = M0 115 ls (.int 9 :: st) H Q := w_con (show decode kb0 113 = .ok (.bipush 9, 2) from by decide +kernel) rfl (by decide)
theorem m0_120 : M0 120 [.val (.ref r), l1, l2, l3] st H Q = M0 121 [.val (.ref r), l1, l2, l3] (.ref r :: st) H Q := w_x (show decode kb0 120 = .ok (.aload_n 0, 1) from by decide +kernel) rfl
theorem m0_121 : M0 121 ls st H Q = M0 123 ls (.int 9 :: st) H Q := w_con (show decode kb0 121 = .ok (.bipush 9, 2) from by decide +kernel) rfl (by decide)
theorem m0_128 : M0 128 [.val (.ref r), l1, l2, l3] st H Q = M0 129 [.val (.ref r), l1, l2, l3] (.ref r :: st) H Q := w_x (show decode kb0 128 = .ok (.aload_n 0, 1) from by decide +kernel) rfl
theorem m0_129 : M0 129 ls st H Q = M0 131 ls (.int 9 :: st) H Q := w_con (show decode kb0 129 = .ok (.bipush 9, 2) from by decide +kernel) rfl (by decide)
theorem m0_136 : M0 136 [.val (.ref r), l1, l2, l3] st H Q = M0 137 [.val (.ref r), l1, l2, l3] (.ref r :: st) H Q := w_x (show decode kb0 136 = .ok (.aload_n 0, 1) from by decide +kernel) rfl
theorem m0_137 : M0 137 ls st H Q = M0 139 ls (.int 9 :: st) H Q := w_con (show decode kb0 137 = .ok (.bipush 9, 2) from by decide +kernel) rfl (by decide)
theorem m0_144 : M0 144 [.val (.ref r), l1, l2, l3] st H Q = M0 145 [.val (.ref r), l1, l2, l3] (.ref r :: st) H Q := w_x (show decode kb0 144 = .ok (.aload_n 0, 1) from by decide +kernel) rfl
theorem m0_145 : M0 145 ls st H Q = M0 147 ls (.int 9 :: st) H Q := w_con (show decode kb0 145 = .ok (.bipush 9, 2) from by decide +kernel) rfl (by decide)
theorem m0_152 : M0 152 [.val (.ref r), l1, l2, l3] st H Q = M0 153 [.val (.ref r), l1, l2, l3] (.ref r :: st) H Q := w_x (show decode kb0 152 = .ok (.aload_n 0, 1) from by decide +kernel) rfl
theorem m0_153 : M0 153 ls st H Q = M0 155 ls (.int 9 :: st) H Q := w_con (show decode kb0 153 = .ok (.bipush 9, 2) from by decide +kernel) rfl (by decide)
theorem m0_160 : M0 160 [l0, .val (.int v), l2, l3] st H Q = M0 161 [l0, .val (.int v), l2, l3] (.int v :: st) H Q := w_x (show decode kb0 160 = .ok (.iload_n 1, 1) from by decide +kernel) rfl
theorem m0_161u : M0 161 [l0, l1, .unset, l3] ((.int v) :: st) H Q = M0 162 [l0, l1, .val (.int v), l3] st H Q := w_st (i := 2) (p := isI) (show decode kb0 161 = .ok (.istore_n 2, 1) from by decide +kernel) rfl rfl rfl rfl rfl rfl
theorem m0_162 : M0 162 [l0, l1, .val (.int v), l3] st H Q = M0 163 [l0, l1, .val (.int v), l3] (.int v :: st) H Q := w_x (show decode kb0 162 = .ok (.iload_n 2, 1) from by decide +kernel) rfl
theorem m0_163 : M0 163 ls st H Q = M0 164 ls (.int 1 :: st) H Q := w_con (show decode kb0 163 = .ok (.iconst 1, 1) from by decide +kernel) rfl (by decide)
theorem m0_164 : M0 164 ls (.int y :: .int x :: st) H Q = if x < y then M0 167 ls st H Q else M0 169 ls st H Q := w_icmpN (show decode kb0 164 = .ok (.if_icmp .ge 5, 3) from by decide +kernel) (i_ge x y) rfl
theorem m0_167 : M0 167 ls st H Q = M0 168 ls (.int 1 :: st) H Q := w_con (show decode kb0 167 = .ok (.iconst 1, 1) from by decide +kernel) rfl (by decide)
theorem m0_168i : M0 168 [l0, l1, .val (.int z), l3] ((.int v) :: st) H Q = M0 169 [l0, l1, .val (.int v), l3] st H Q := w_st (i := 2) (p := isI) (show decode kb0 168 = .ok (.istore_n 2, 1) from by decide +kernel) rfl rfl rfl rfl rfl rfl
theorem m0_169 : M0 169 [l0, l1, .val (.int v), l3] st H Q = M0 170 [l0, l1, .val (.int v), l3] (.int v :: st) H Q := w_x (show decode kb0 169 = .ok (.iload_n 2, 1) from by decide +kernel) rfl
theorem m0_170 : M0 170 ls st H Q = M0 172 ls (.int 8 :: st) H Q := w_con (show decode kb0 170 = .ok (.bipush 8, 2) from by decide +kernel) rfl (by decide)
theorem m0_172 : M0 172 ls (.int y :: .int x :: st) H Q = if y < x then M0 175 ls st H Q else M0 178 ls st H Q := w_icmpN (show decode kb0 172 = .ok (.if_icmp .le 6, 3) from by decide +kernel) (i_le x y) rfl
theorem m0_175 : M0 175 ls st H Q = M0 177 ls (.int 8 :: st) H Q := w_con (show decode kb0 175 = .ok (.bipush 8, 2) from by decide +kernel) rfl (by decide)
theorem m0_177i : M0 177 [l0, l1, .val (.int z), l3] ((.int v) :: st) H Q = M0 178 [l0, l1, .val (.int v), l3] st H Q := w_st (i := 2) (p := isI) (show decode kb0 177 = .ok (.istore_n 2, 1) from by decide +kernel) rfl rfl rfl rfl rfl rfl
theorem m0_178 : M0 178 [.val (.ref r), l1, l2, l3] st H Q = M0 179 [.val (.ref r), l1, l2, l3] (.ref r :: st) H Q := w_x (show decode kb0 178 = .ok (.aload_n 0, 1) from by decide +kernel) rfl
theorem m0_179 : M0 179 [l0, l1, .val (.int v), l3] st H Q = M0 180 [l0, l1, .val (.int v), l3] (.int v :: st) H Q := w_x (show decode kb0 179 = .ok (.iload_n 2, 1) from by decide +kernel) rfl
theorem pf0_71 : pfR tables_1 y0.cls y0.name 71 = some ("ResponseTimeGate", 20, .int) := by decide +kernel
theorem m0_180 : M0 180 ls (.int v :: .ref (b + 1) :: st) (put (b + 1) pre s A post) Q = M0 183 ls st (put (b + 1) pre (ou s 0 v) A post) Q := w_put (show decode kb0 180 = .ok (.putfield 71, 3) from by decide +kernel) pf0_71 put_o (Nat.succ_le_succ (Nat.zero_le _)) (by show 20 < 31; omega) rfl put_s0
theorem m0_183 : M0 183 [.val (.ref r), l1, l2, l3] st H Q = M0 184 [.val (.ref r), l1, l2, l3] (.ref r :: st) H Q := w_x (show decode kb0 183 = .ok (.aload_n 0, 1) from by decide +kernel) rfl
theorem m0_184 : M0 184 ls st H Q = M0 185 ls (.int 0 :: st) H Q := w_con (show decode kb0 184 = .ok (.iconst 0, 1) from by decide +kernel) rfl (by decide)
theorem pf0_75 : pfR tables_1 y0.cls y0.name 75 = some ("ResponseTimeGate", 21, .int) := by decide +kernel
theorem m0_185 : M0 185 ls (.int v :: .ref (b + 1) :: st) (put (b + 1) pre s A post) Q = M0 188 ls st (put (b + 1) pre (ou s 1 v) A post) Q := w_put (show decode kb0 185 = .ok (.putfield 75, 3) from by decide +kernel) pf0_75 put_o (Nat.succ_le_succ (Nat.zero_le _)) (by show 21 < 31; omega) rfl put_s1
theorem m0_188 : M0 188 [.val (.ref r), l1, l2, l3] st H Q = M0 189 [.val (.ref r), l1, l2, l3] (.ref r :: st) H Q := w_x (show decode kb0 188 = .ok (.aload_n 0, 1) from by decide +kernel) rfl
theorem m0_189 : M0 189 ls st H Q = M0 190 ls (.int 0 :: st) H Q := w_con (show decode kb0 189 = .ok (.iconst 0, 1) from by decide +kernel) rfl (by decide)
theorem pf0_78 : pfR tables_1 y0.cls y0.name 78 = some ("ResponseTimeGate", 22, .boolean) := by decide +kernel
theorem m0_190 : M0 190 ls (.int v :: .ref (b + 1) :: st) (put (b + 1) pre s A post) Q = M0 193 ls st (put (b + 1) pre (ou s 4 (nar .boolean v)) A post) Q := w_put (show decode kb0 190 = .ok (.putfield 78, 3) from by decide +kernel) pf0_78 put_o (Nat.succ_le_succ (Nat.zero_le _)) (by show 22 < 31; omega) rfl put_s4
theorem m0_193 : M0 193 [.val (.ref r), l1, l2, l3] st H Q = M0 194 [.val (.ref r), l1, l2, l3] (.ref r :: st) H Q := w_x (show decode kb0 193 = .ok (.aload_n 0, 1) from by decide +kernel) rfl
theorem m0_194 : M0 194 ls st H Q = M0 195 ls (.int (-1) :: st) H Q := w_con (show decode kb0 194 = .ok (.iconst (-1), 1) from by decide +kernel) rfl (by decide)
theorem pf0_82 : pfR tables_1 y0.cls y0.name 82 = some ("ResponseTimeGate", 23, .int) := by decide +kernel
theorem m0_195 : M0 195 ls (.int v :: .ref (b + 1) :: st) (put (b + 1) pre s A post) Q = M0 198 ls st (put (b + 1) pre (ou s 3 v) A post) Q := w_put (show decode kb0 195 = .ok (.putfield 82, 3) from by decide +kernel) pf0_82 put_o (Nat.succ_le_succ (Nat.zero_le _)) (by show 23 < 31; omega) rfl put_s3
theorem m0_198 : M0 198 [.val (.ref r), l1, l2, l3] st H Q = M0 199 [.val (.ref r), l1, l2, l3] (.ref r :: st) H Q := w_x (show decode kb0 198 = .ok (.aload_n 0, 1) from by decide +kernel) rfl
theorem m0_199 : M0 199 ls st H Q = M0 200 ls (.int 1 :: st) H Q := w_con (show decode kb0 199 = .ok (.iconst 1, 1) from by decide +kernel) rfl (by decide)
theorem pf0_85 : pfR tables_1 y0.cls y0.name 85 = some ("ResponseTimeGate", 24, .int) := by decide +kernel
theorem m0_200 : M0 200 ls (.int v :: .ref (b + 1) :: st) (put (b + 1) pre s A post) Q = M0 203 ls st (put (b + 1) pre (ou s 2 v) A post) Q := w_put (show decode kb0 200 = .ok (.putfield 85, 3) from by decide +kernel) pf0_85 put_o (Nat.succ_le_succ (Nat.zero_le _)) (by show 24 < 31; omega) rfl put_s2
theorem m0_203 : M0 203 ls st H Q = M0 204 ls (.int 0 :: st) H Q := w_con (show decode kb0 203 = .ok (.iconst 0, 1) from by decide +kernel) rfl (by decide)
theorem m0_204u : M0 204 [l0, l1, l2, .unset] ((.int v) :: st) H Q = M0 205 [l0, l1, l2, .val (.int v)] st H Q := w_st (i := 3) (p := isI) (show decode kb0 204 = .ok (.istore_n 3, 1) from by decide +kernel) rfl rfl rfl rfl rfl rfl
theorem m0_205 : M0 205 [l0, l1, l2, .val (.int v)] st H Q = M0 206 [l0, l1, l2, .val (.int v)] (.int v :: st) H Q := w_x (show decode kb0 205 = .ok (.iload_n 3, 1) from by decide +kernel) rfl
theorem m0_206 : M0 206 ls st H Q = M0 207 ls (.int 4 :: st) H Q := w_con (show decode kb0 206 = .ok (.iconst 4, 1) from by decide +kernel) rfl (by decide)
theorem m0_207 : M0 207 ls (.int y :: .int x :: st) H Q = if x < y then M0 210 ls st H Q else M0 223 ls st H Q := w_icmpN (show decode kb0 207 = .ok (.if_icmp .ge 16, 3) from by decide +kernel) (i_ge x y) rfl
theorem m0_210 : M0 210 [.val (.ref r), l1, l2, l3] st H Q = M0 211 [.val (.ref r), l1, l2, l3] (.ref r :: st) H Q := w_x (show decode kb0 210 = .ok (.aload_n 0, 1) from by decide +kernel) rfl
theorem m0_211 : M0 211 ls (.ref (b + 1) :: st) (put (b + 1) pre s A post) Q = M0 214 ls (.ref ((b + 1) + 9) :: st) (put (b + 1) pre s A post) Q := w_get (show decode kb0 211 = .ok (.getfield 34, 3) from by decide +kernel) gf_34 put_o rfl
theorem m0_214 : M0 214 [l0, l1, l2, .val (.int v)] st H Q = M0 215 [l0, l1, l2, .val (.int v)] (.int v :: st) H Q := w_x (show decode kb0 214 = .ok (.iload_n 3, 1) from by decide +kernel) rfl
theorem m0_215 : M0 215 ls st H Q = M0 216 ls (.int 0 :: st) H Q := w_con (show decode kb0 215 = .ok (.iconst 0, 1) from by decide +kernel) rfl (by decide)
theorem m0_216  : M0 216 ls (.int v :: .int j :: .ref ((b + 1) + 9) :: st) (put (b + 1) pre s A post) Q = (inB j (A 8) ∧ M0 217 ls st (put (b + 1) pre s (ou A 8 (setA (A 8) j v)) post) Q) := w_ist (show decode kb0 216 = .ok (.iastore, 1) from by decide +kernel) rfl put_a8 (by omega) rfl put_w8
theorem m0_217 : M0 217 [l0, l1, l2, .val (.int v)] st H Q = M0 220 [l0, l1, l2, .val (.int (v + 1))] st H Q := w_iinc (show decode kb0 217 = .ok (.iinc 3 1, 3) from by decide +kernel) rfl (by decide) rfl
theorem m0_220 : M0 220 ls st H Q = M0 205 ls st H Q := w_x (show decode kb0 220 = .ok (.goto (-15), 3) from by decide +kernel) rfl
theorem m0_223 : M0 223 [.val (.ref r), l1, l2, l3] st H Q = M0 224 [.val (.ref r), l1, l2, l3] (.ref r :: st) H Q := w_x (show decode kb0 223 = .ok (.aload_n 0, 1) from by decide +kernel) rfl
theorem cr0_88 : vR tables_1 dn y0 88 = some (true, y1, prog_1_method_23_code, 2, none, 0, 0) := pR_of (cR_of (by decide +kernel) rc_1 dn_1 dn_0 (sig := ⟨[], none⟩) (by decide +kernel) (by decide +kernel) rfl rfl) (by decide +kernel) (by decide +kernel)
theorem m0_224 : M0 224 ls [.ref (b + 1)] (put (b + 1) pre s A post) Q = M1 0 [.val (.ref (b + 1)), .unset] [] (put (b + 1) pre s A post) (fun v H1 => M0 227 ls (v.toList ++ []) H1 Q) := w_virt (as := []) (rest := []) (a := (b + 1)) (show decode kb0 224 = .ok (.invokevirtual 88, 3) from by decide +kernel) cr0_88 put_o rfl rfl (Nat.le_of_ble_eq_true rfl) (by show 1 ≤ 2; omega) rfl
theorem m0_227 : M0 227 ls [] H Q = Q none H := w_vret (show decode kb0 227 = .ok (.return_, 1) from by decide +kernel) rfl
theorem m1_0 : M1 0 [.val (.ref r), l1] st H Q = M1 1 [.val (.ref r), l1] (.ref r :: st) H Q := w_x (show decode kb1 0 = .ok (.aload_n 0, 1) from by decide +kernel) rfl
theorem m1_1 : M1 1 ls st H Q = M1 2 ls (.int 0 :: st) H Q := w_con (show decode kb1 1 = .ok (.iconst 0, 1) from by decide +kernel) rfl (by decide)
theorem pf1_145 : pfR tables_1 y1.cls y1.name 145 = some ("ResponseTimeGate", 25, .int) := by decide +kernel
theorem m1_2 : M1 2 ls (.int v :: .ref (b + 1) :: st) (put (b + 1) pre s A post) Q = M1 5 ls st (put (b + 1) pre (ou s 9 v) A post) Q := w_put (show decode kb1 2 = .ok (.putfield 145, 3) from by decide +kernel) pf1_145 put_o (Nat.succ_le_succ (Nat.zero_le _)) (by show 25 < 31; omega) rfl put_s9
theorem m1_5 : M1 5 [.val (.ref r), l1] st H Q = M1 6 [.val (.ref r), l1] (.ref r :: st) H Q := w_x (show decode kb1 5 = .ok (.aload_n 0, 1) from by decide +kernel) rfl
theorem m1_6 : M1 6 ls st H Q = M1 7 ls (.int 0 :: st) H Q := w_con (show decode kb1 6 = .ok (.iconst 0, 1) from by decide +kernel) rfl (by decide)
theorem pf1_148 : pfR tables_1 y1.cls y1.name 148 = some ("ResponseTimeGate", 26, .int) := by decide +kernel
theorem m1_7 : M1 7 ls (.int v :: .ref (b + 1) :: st) (put (b + 1) pre s A post) Q = M1 10 ls st (put (b + 1) pre (ou s 10 v) A post) Q := w_put (show decode kb1 7 = .ok (.putfield 148, 3) from by decide +kernel) pf1_148 put_o (Nat.succ_le_succ (Nat.zero_le _)) (by show 26 < 31; omega) rfl put_s10
theorem m1_10 : M1 10 ls st H Q = M1 11 ls (.int 0 :: st) H Q := w_con (show decode kb1 10 = .ok (.iconst 0, 1) from by decide +kernel) rfl (by decide)
theorem m1_11u : M1 11 [l0, .unset] ((.int v) :: st) H Q = M1 12 [l0, .val (.int v)] st H Q := w_st (i := 1) (p := isI) (show decode kb1 11 = .ok (.istore_n 1, 1) from by decide +kernel) rfl rfl rfl rfl rfl rfl
theorem m1_12 : M1 12 [l0, .val (.int v)] st H Q = M1 13 [l0, .val (.int v)] (.int v :: st) H Q := w_x (show decode kb1 12 = .ok (.iload_n 1, 1) from by decide +kernel) rfl
theorem m1_13 : M1 13 ls st H Q = M1 15 ls (.int 9 :: st) H Q := w_con (show decode kb1 13 = .ok (.bipush 9, 2) from by decide +kernel) rfl (by decide)
theorem m1_15 : M1 15 ls (.int y :: .int x :: st) H Q = if x < y then M1 18 ls st H Q else M1 66 ls st H Q := w_icmpN (show decode kb1 15 = .ok (.if_icmp .ge 51, 3) from by decide +kernel) (i_ge x y) rfl
theorem m1_18 : M1 18 [.val (.ref r), l1] st H Q = M1 19 [.val (.ref r), l1] (.ref r :: st) H Q := w_x (show decode kb1 18 = .ok (.aload_n 0, 1) from by decide +kernel) rfl
theorem m1_19 : M1 19 ls (.ref (b + 1) :: st) (put (b + 1) pre s A post) Q = M1 22 ls (.ref ((b + 1) + 15) :: st) (put (b + 1) pre s A post) Q := w_get (show decode kb1 19 = .ok (.getfield 52, 3) from by decide +kernel) gf_52 put_o rfl
theorem m1_22 : M1 22 [l0, .val (.int v)] st H Q = M1 23 [l0, .val (.int v)] (.int v :: st) H Q := w_x (show decode kb1 22 = .ok (.iload_n 1, 1) from by decide +kernel) rfl
theorem m1_23 : M1 23 ls st H Q = M1 24 ls (.int 0 :: st) H Q := w_con (show decode kb1 23 = .ok (.iconst 0, 1) from by decide +kernel) rfl (by decide)
theorem m1_24  : M1 24 ls (.int v :: .int j :: .ref ((b + 1) + 15) :: st) (put (b + 1) pre s A post) Q = (inB j (A 14) ∧ M1 25 ls st (put (b + 1) pre s (ou A 14 (setA (A 14) j (nar .boolean v))) post) Q) := w_ist (show decode kb1 24 = .ok (.bastore, 1) from by decide +kernel) rfl put_a14 (by omega) rfl put_w14
theorem m1_25 : M1 25 [.val (.ref r), l1] st H Q = M1 26 [.val (.ref r), l1] (.ref r :: st) H Q := w_x (show decode kb1 25 = .ok (.aload_n 0, 1) from by decide +kernel) rfl
theorem m1_26 : M1 26 ls (.ref (b + 1) :: st) (put (b + 1) pre s A post) Q = M1 29 ls (.ref ((b + 1) + 16) :: st) (put (b + 1) pre s A post) Q := w_get (show decode kb1 26 = .ok (.getfield 56, 3) from by decide +kernel) gf_56 put_o rfl
theorem m1_29 : M1 29 [l0, .val (.int v)] st H Q = M1 30 [l0, .val (.int v)] (.int v :: st) H Q := w_x (show decode kb1 29 = .ok (.iload_n 1, 1) from by decide +kernel) rfl
theorem m1_30 : M1 30 ls st H Q = M1 31 ls (.int 0 :: st) H Q := w_con (show decode kb1 30 = .ok (.iconst 0, 1) from by decide +kernel) rfl (by decide)
theorem m1_31  : M1 31 ls (.int v :: .int j :: .ref ((b + 1) + 16) :: st) (put (b + 1) pre s A post) Q = (inB j (A 15) ∧ M1 32 ls st (put (b + 1) pre s (ou A 15 (setA (A 15) j v)) post) Q) := w_ist (show decode kb1 31 = .ok (.iastore, 1) from by decide +kernel) rfl put_a15 (by omega) rfl put_w15
theorem m1_32 : M1 32 [.val (.ref r), l1] st H Q = M1 33 [.val (.ref r), l1] (.ref r :: st) H Q := w_x (show decode kb1 32 = .ok (.aload_n 0, 1) from by decide +kernel) rfl
theorem m1_33 : M1 33 ls (.ref (b + 1) :: st) (put (b + 1) pre s A post) Q = M1 36 ls (.ref ((b + 1) + 17) :: st) (put (b + 1) pre s A post) Q := w_get (show decode kb1 33 = .ok (.getfield 59, 3) from by decide +kernel) gf_59 put_o rfl
theorem m1_36 : M1 36 [l0, .val (.int v)] st H Q = M1 37 [l0, .val (.int v)] (.int v :: st) H Q := w_x (show decode kb1 36 = .ok (.iload_n 1, 1) from by decide +kernel) rfl
theorem m1_37 : M1 37 ls st H Q = M1 38 ls (.int 0 :: st) H Q := w_con (show decode kb1 37 = .ok (.iconst 0, 1) from by decide +kernel) rfl (by decide)
theorem m1_38  : M1 38 ls (.int v :: .int j :: .ref ((b + 1) + 17) :: st) (put (b + 1) pre s A post) Q = (inB j (A 16) ∧ M1 39 ls st (put (b + 1) pre s (ou A 16 (setA (A 16) j v)) post) Q) := w_ist (show decode kb1 38 = .ok (.iastore, 1) from by decide +kernel) rfl put_a16 (by omega) rfl put_w16
theorem m1_39 : M1 39 [.val (.ref r), l1] st H Q = M1 40 [.val (.ref r), l1] (.ref r :: st) H Q := w_x (show decode kb1 39 = .ok (.aload_n 0, 1) from by decide +kernel) rfl
theorem m1_40 : M1 40 ls (.ref (b + 1) :: st) (put (b + 1) pre s A post) Q = M1 43 ls (.ref ((b + 1) + 18) :: st) (put (b + 1) pre s A post) Q := w_get (show decode kb1 40 = .ok (.getfield 62, 3) from by decide +kernel) gf_62 put_o rfl
theorem m1_43 : M1 43 [l0, .val (.int v)] st H Q = M1 44 [l0, .val (.int v)] (.int v :: st) H Q := w_x (show decode kb1 43 = .ok (.iload_n 1, 1) from by decide +kernel) rfl
theorem m1_44 : M1 44 ls st H Q = M1 45 ls (.int (-1) :: st) H Q := w_con (show decode kb1 44 = .ok (.iconst (-1), 1) from by decide +kernel) rfl (by decide)
theorem m1_45  : M1 45 ls (.int v :: .int j :: .ref ((b + 1) + 18) :: st) (put (b + 1) pre s A post) Q = (inB j (A 17) ∧ M1 46 ls st (put (b + 1) pre s (ou A 17 (setA (A 17) j v)) post) Q) := w_ist (show decode kb1 45 = .ok (.iastore, 1) from by decide +kernel) rfl put_a17 (by omega) rfl put_w17
theorem m1_46 : M1 46 [.val (.ref r), l1] st H Q = M1 47 [.val (.ref r), l1] (.ref r :: st) H Q := w_x (show decode kb1 46 = .ok (.aload_n 0, 1) from by decide +kernel) rfl
theorem m1_47 : M1 47 ls (.ref (b + 1) :: st) (put (b + 1) pre s A post) Q = M1 50 ls (.ref ((b + 1) + 19) :: st) (put (b + 1) pre s A post) Q := w_get (show decode kb1 47 = .ok (.getfield 65, 3) from by decide +kernel) gf_65 put_o rfl
theorem m1_50 : M1 50 [l0, .val (.int v)] st H Q = M1 51 [l0, .val (.int v)] (.int v :: st) H Q := w_x (show decode kb1 50 = .ok (.iload_n 1, 1) from by decide +kernel) rfl
theorem m1_51 : M1 51 ls st H Q = M1 52 ls (.int 0 :: st) H Q := w_con (show decode kb1 51 = .ok (.iconst 0, 1) from by decide +kernel) rfl (by decide)
theorem m1_52  : M1 52 ls (.int v :: .int j :: .ref ((b + 1) + 19) :: st) (put (b + 1) pre s A post) Q = (inB j (A 18) ∧ M1 53 ls st (put (b + 1) pre s (ou A 18 (setA (A 18) j v)) post) Q) := w_ist (show decode kb1 52 = .ok (.iastore, 1) from by decide +kernel) rfl put_a18 (by omega) rfl put_w18
theorem m1_53 : M1 53 [.val (.ref r), l1] st H Q = M1 54 [.val (.ref r), l1] (.ref r :: st) H Q := w_x (show decode kb1 53 = .ok (.aload_n 0, 1) from by decide +kernel) rfl
theorem m1_54 : M1 54 ls (.ref (b + 1) :: st) (put (b + 1) pre s A post) Q = M1 57 ls (.ref ((b + 1) + 20) :: st) (put (b + 1) pre s A post) Q := w_get (show decode kb1 54 = .ok (.getfield 68, 3) from by decide +kernel) gf_68 put_o rfl
theorem m1_57 : M1 57 [l0, .val (.int v)] st H Q = M1 58 [l0, .val (.int v)] (.int v :: st) H Q := w_x (show decode kb1 57 = .ok (.iload_n 1, 1) from by decide +kernel) rfl
theorem m1_58 : M1 58 ls st H Q = M1 59 ls (.int 0 :: st) H Q := w_con (show decode kb1 58 = .ok (.iconst 0, 1) from by decide +kernel) rfl (by decide)
theorem m1_59  : M1 59 ls (.int v :: .int j :: .ref ((b + 1) + 20) :: st) (put (b + 1) pre s A post) Q = (inB j (A 19) ∧ M1 60 ls st (put (b + 1) pre s (ou A 19 (setA (A 19) j v)) post) Q) := w_ist (show decode kb1 59 = .ok (.iastore, 1) from by decide +kernel) rfl put_a19 (by omega) rfl put_w19
theorem m1_60 : M1 60 [l0, .val (.int v)] st H Q = M1 63 [l0, .val (.int (v + 1))] st H Q := w_iinc (show decode kb1 60 = .ok (.iinc 1 1, 3) from by decide +kernel) rfl (by decide) rfl
theorem m1_63 : M1 63 ls st H Q = M1 12 ls st H Q := w_x (show decode kb1 63 = .ok (.goto (-51), 3) from by decide +kernel) rfl
theorem m1_66 : M1 66 ls [] H Q = Q none H := w_vret (show decode kb1 66 = .ok (.return_, 1) from by decide +kernel) rfl
theorem m2_0 : M2 0 [.val (.ref r), l1, l2, l3] st H Q = M2 1 [.val (.ref r), l1, l2, l3] (.ref r :: st) H Q := w_x (show decode kb2 0 = .ok (.aload_n 0, 1) from by decide +kernel) rfl
theorem m2_1 : M2 1 ls (.ref (b + 1) :: st) (put (b + 1) pre s A post) Q = M2 4 ls (.int (s 4) :: st) (put (b + 1) pre s A post) Q := w_get (show decode kb2 1 = .ok (.getfield 78, 3) from by decide +kernel) gf_78 put_o rfl
theorem m2_4 : M2 4 ls (.int x :: st) H Q = if x = 0 then M2 7 ls st H Q else M2 10 ls st H Q := w_ifN (show decode kb2 4 = .ok (.ifCond .ne 6, 3) from by decide +kernel) (z_ne x) rfl
theorem m2_7 : M2 7 ls st H Q = M2 9 ls (.int (-4) :: st) H Q := w_con (show decode kb2 7 = .ok (.bipush (-4), 2) from by decide +kernel) rfl (by decide)
theorem m2_9 : M2 9 ls (.int z :: st) H Q = Q (some (.int z)) H := w_iret (show decode kb2 9 = .ok (.ireturn, 1) from by decide +kernel) rfl
theorem m2_10 : M2 10 [.val (.ref r), l1, l2, l3] st H Q = M2 11 [.val (.ref r), l1, l2, l3] (.ref r :: st) H Q := w_x (show decode kb2 10 = .ok (.aload_n 0, 1) from by decide +kernel) rfl
theorem m2_11 : M2 11 ls (.ref (b + 1) :: st) (put (b + 1) pre s A post) Q = M2 14 ls (.int (s 1) :: st) (put (b + 1) pre s A post) Q := w_get (show decode kb2 11 = .ok (.getfield 75, 3) from by decide +kernel) gf_75 put_o rfl
theorem m2_14u : M2 14 [l0, .unset, l2, l3] ((.int v) :: st) H Q = M2 15 [l0, .val (.int v), l2, l3] st H Q := w_st (i := 1) (p := isI) (show decode kb2 14 = .ok (.istore_n 1, 1) from by decide +kernel) rfl rfl rfl rfl rfl rfl
theorem m2_15 : M2 15 [l0, .val (.int v), l2, l3] st H Q = M2 16 [l0, .val (.int v), l2, l3] (.int v :: st) H Q := w_x (show decode kb2 15 = .ok (.iload_n 1, 1) from by decide +kernel) rfl
theorem m2_16 : M2 16 ls st H Q = M2 18 ls (.int 8 :: st) H Q := w_con (show decode kb2 16 = .ok (.bipush 8, 2) from by decide +kernel) rfl (by decide)
theorem m2_18 : M2 18 ls (.int y :: .int x :: st) H Q = if x < y then M2 28 ls st H Q else M2 21 ls st H Q := w_icmp (show decode kb2 18 = .ok (.if_icmp .lt 10, 3) from by decide +kernel) (i_lt x y) rfl
theorem m2_21 : M2 21 [.val (.ref r), l1, l2, l3] st H Q = M2 22 [.val (.ref r), l1, l2, l3] (.ref r :: st) H Q := w_x (show decode kb2 21 = .ok (.aload_n 0, 1) from by decide +kernel) rfl
theorem m2_22 : M2 22 ls st H Q = M2 23 ls (.int 0 :: st) H Q := w_con (show decode kb2 22 = .ok (.iconst 0, 1) from by decide +kernel) rfl (by decide)
theorem pf2_78 : pfR tables_1 y2.cls y2.name 78 = some ("ResponseTimeGate", 22, .boolean) := by decide +kernel
theorem m2_23 : M2 23 ls (.int v :: .ref (b + 1) :: st) (put (b + 1) pre s A post) Q = M2 26 ls st (put (b + 1) pre (ou s 4 (nar .boolean v)) A post) Q := w_put (show decode kb2 23 = .ok (.putfield 78, 3) from by decide +kernel) pf2_78 put_o (Nat.succ_le_succ (Nat.zero_le _)) (by show 22 < 31; omega) rfl put_s4
theorem m2_26 : M2 26 ls st H Q = M2 27 ls (.int (-1) :: st) H Q := w_con (show decode kb2 26 = .ok (.iconst (-1), 1) from by decide +kernel) rfl (by decide)
theorem m2_27 : M2 27 ls (.int z :: st) H Q = Q (some (.int z)) H := w_iret (show decode kb2 27 = .ok (.ireturn, 1) from by decide +kernel) rfl
theorem m2_28 : M2 28 [.val (.ref r), l1, l2, l3] st H Q = M2 29 [.val (.ref r), l1, l2, l3] (.ref r :: st) H Q := w_x (show decode kb2 28 = .ok (.aload_n 0, 1) from by decide +kernel) rfl
theorem m2_29 : M2 29 [.val (.ref r), l1, l2, l3] st H Q = M2 30 [.val (.ref r), l1, l2, l3] (.ref r :: st) H Q := w_x (show decode kb2 29 = .ok (.aload_n 0, 1) from by decide +kernel) rfl
theorem m2_30 : M2 30 ls (.ref (b + 1) :: st) (put (b + 1) pre s A post) Q = M2 33 ls (.int (s 2) :: st) (put (b + 1) pre s A post) Q := w_get (show decode kb2 30 = .ok (.getfield 85, 3) from by decide +kernel) gf_85 put_o rfl
theorem m2_33 : M2 33 [.val (.ref r), l1, l2, l3] st H Q = M2 34 [.val (.ref r), l1, l2, l3] (.ref r :: st) H Q := w_x (show decode kb2 33 = .ok (.aload_n 0, 1) from by decide +kernel) rfl
theorem m2_34 : M2 34 ls (.ref (b + 1) :: st) (put (b + 1) pre s A post) Q = M2 37 ls (.int (s 5) :: st) (put (b + 1) pre s A post) Q := w_get (show decode kb2 34 = .ok (.getfield 95, 3) from by decide +kernel) gf_95 put_o rfl
theorem cr2_111 : vR tables_1 dn y2 111 = some (true, y16, prog_1_method_10_code, 4, (some .int), 2, 22) := pR_of (cR_of (by decide +kernel) rc_16 dn_16 dn_2 (sig := ⟨[.int, .int], some .int⟩) (by decide +kernel) (by decide +kernel) rfl rfl) (by decide +kernel) (by decide +kernel)
theorem m2_37 (a0 : Int32) (a1 : Int32) : M2 37 ls [.int a1, .int a0, .ref (b + 1)] (put (b + 1) pre s A post) Q = M16 0 [.val (.ref (b + 1)), .val (.int a0), .val (.int a1), .unset] [] (put (b + 1) pre s A post) (fun v H1 => M2 40 ls (v.toList ++ []) H1 Q) := w_virt (as := [.int a1, .int a0]) (rest := []) (a := (b + 1)) (show decode kb2 37 = .ok (.invokevirtual 111, 3) from by decide +kernel) cr2_111 put_o rfl rfl (Nat.le_of_ble_eq_true rfl) (by show 3 ≤ 4; omega) rfl
theorem m2_40u : M2 40 [l0, l1, .unset, l3] ((.int v) :: st) H Q = M2 41 [l0, l1, .val (.int v), l3] st H Q := w_st (i := 2) (p := isI) (show decode kb2 40 = .ok (.istore_n 2, 1) from by decide +kernel) rfl rfl rfl rfl rfl rfl
theorem m2_41 : M2 41 [l0, l1, .val (.int v), l3] st H Q = M2 42 [l0, l1, .val (.int v), l3] (.int v :: st) H Q := w_x (show decode kb2 41 = .ok (.iload_n 2, 1) from by decide +kernel) rfl
theorem m2_42 : M2 42 ls st H Q = M2 45 ls (.int 840 :: st) H Q := w_con (show decode kb2 42 = .ok (.sipush 840, 3) from by decide +kernel) rfl (by decide)
theorem m2_45 : M2 45 ls (.int y :: .int x :: st) H Q = if y < x then M2 48 ls st H Q else M2 61 ls st H Q := w_icmpN (show decode kb2 45 = .ok (.if_icmp .le 16, 3) from by decide +kernel) (i_le x y) rfl
theorem m2_48 : M2 48 [.val (.ref r), l1, l2, l3] st H Q = M2 49 [.val (.ref r), l1, l2, l3] (.ref r :: st) H Q := w_x (show decode kb2 48 = .ok (.aload_n 0, 1) from by decide +kernel) rfl
theorem m2_49 : M2 49 ls st H Q = M2 50 ls (.int 0 :: st) H Q := w_con (show decode kb2 49 = .ok (.iconst 0, 1) from by decide +kernel) rfl (by decide)
theorem m2_50 : M2 50 ls (.int v :: .ref (b + 1) :: st) (put (b + 1) pre s A post) Q = M2 53 ls st (put (b + 1) pre (ou s 4 (nar .boolean v)) A post) Q := w_put (show decode kb2 50 = .ok (.putfield 78, 3) from by decide +kernel) pf2_78 put_o (Nat.succ_le_succ (Nat.zero_le _)) (by show 22 < 31; omega) rfl put_s4
theorem m2_53 : M2 53 [.val (.ref r), l1, l2, l3] st H Q = M2 54 [.val (.ref r), l1, l2, l3] (.ref r :: st) H Q := w_x (show decode kb2 53 = .ok (.aload_n 0, 1) from by decide +kernel) rfl
theorem m2_54 : M2 54 ls st H Q = M2 55 ls (.int (-1) :: st) H Q := w_con (show decode kb2 54 = .ok (.iconst (-1), 1) from by decide +kernel) rfl (by decide)
theorem pf2_82 : pfR tables_1 y2.cls y2.name 82 = some ("ResponseTimeGate", 23, .int) := by decide +kernel
theorem m2_55 : M2 55 ls (.int v :: .ref (b + 1) :: st) (put (b + 1) pre s A post) Q = M2 58 ls st (put (b + 1) pre (ou s 3 v) A post) Q := w_put (show decode kb2 55 = .ok (.putfield 82, 3) from by decide +kernel) pf2_82 put_o (Nat.succ_le_succ (Nat.zero_le _)) (by show 23 < 31; omega) rfl put_s3
theorem m2_58 : M2 58 ls st H Q = M2 60 ls (.int (-6) :: st) H Q := w_con (show decode kb2 58 = .ok (.bipush (-6), 2) from by decide +kernel) rfl (by decide)
theorem m2_60 : M2 60 ls (.int z :: st) H Q = Q (some (.int z)) H := w_iret (show decode kb2 60 = .ok (.ireturn, 1) from by decide +kernel) rfl
theorem m2_61 : M2 61 [.val (.ref r), l1, l2, l3] st H Q = M2 62 [.val (.ref r), l1, l2, l3] (.ref r :: st) H Q := w_x (show decode kb2 61 = .ok (.aload_n 0, 1) from by decide +kernel) rfl
theorem m2_62 : M2 62 [l0, .val (.int v), l2, l3] st H Q = M2 63 [l0, .val (.int v), l2, l3] (.int v :: st) H Q := w_x (show decode kb2 62 = .ok (.iload_n 1, 1) from by decide +kernel) rfl
theorem cr2_115 : vR tables_1 dn y2 115 = some (true, y18, prog_1_method_7_code, 3, none, 1, 41) := pR_of (cR_of (by decide +kernel) rc_18 dn_18 dn_2 (sig := ⟨[.int], none⟩) (by decide +kernel) (by decide +kernel) rfl rfl) (by decide +kernel) (by decide +kernel)
theorem m2_63 (a0 : Int32) : M2 63 ls [.int a0, .ref (b + 1)] (put (b + 1) pre s A post) Q = M18 0 [.val (.ref (b + 1)), .val (.int a0), .unset] [] (put (b + 1) pre s A post) (fun v H1 => M2 66 ls (v.toList ++ []) H1 Q) := w_virt (as := [.int a0]) (rest := []) (a := (b + 1)) (show decode kb2 63 = .ok (.invokevirtual 115, 3) from by decide +kernel) cr2_115 put_o rfl rfl (Nat.le_of_ble_eq_true rfl) (by show 2 ≤ 3; omega) rfl
theorem m2_66 : M2 66 [.val (.ref r), l1, l2, l3] st H Q = M2 67 [.val (.ref r), l1, l2, l3] (.ref r :: st) H Q := w_x (show decode kb2 66 = .ok (.aload_n 0, 1) from by decide +kernel) rfl
theorem m2_67 : M2 67 [l0, .val (.int v), l2, l3] st H Q = M2 68 [l0, .val (.int v), l2, l3] (.int v :: st) H Q := w_x (show decode kb2 67 = .ok (.iload_n 1, 1) from by decide +kernel) rfl
theorem m2_68 : M2 68 ls st H Q = M2 69 ls (.int 1 :: st) H Q := w_con (show decode kb2 68 = .ok (.iconst 1, 1) from by decide +kernel) rfl (by decide)
theorem m2_69 : M2 69 ls (.int y :: .int x :: st) H Q = M2 70 ls (.int (x + y) :: st) H Q := w_x (show decode kb2 69 = .ok (.iadd, 1) from by decide +kernel) rfl
theorem cr2_119 : vR tables_1 dn y2 119 = some (true, y19, prog_1_method_11_code, 5, (some .int), 1, 0) := pR_of (cR_of (by decide +kernel) rc_19 dn_19 dn_2 (sig := ⟨[.int], some .int⟩) (by decide +kernel) (by decide +kernel) rfl rfl) (by decide +kernel) (by decide +kernel)
theorem m2_70 (a0 : Int32) : M2 70 ls [.int a0, .ref (b + 1)] (put (b + 1) pre s A post) Q = M19 0 [.val (.ref (b + 1)), .val (.int a0), .unset, .unset, .unset] [] (put (b + 1) pre s A post) (fun v H1 => M2 73 ls (v.toList ++ []) H1 Q) := w_virt (as := [.int a0]) (rest := []) (a := (b + 1)) (show decode kb2 70 = .ok (.invokevirtual 119, 3) from by decide +kernel) cr2_119 put_o rfl rfl (Nat.le_of_ble_eq_true rfl) (by show 2 ≤ 5; omega) rfl
theorem m2_73u : M2 73 [l0, l1, l2, .unset] ((.int v) :: st) H Q = M2 74 [l0, l1, l2, .val (.int v)] st H Q := w_st (i := 3) (p := isI) (show decode kb2 73 = .ok (.istore_n 3, 1) from by decide +kernel) rfl rfl rfl rfl rfl rfl
theorem m2_74 : M2 74 [l0, l1, l2, .val (.int v)] st H Q = M2 75 [l0, l1, l2, .val (.int v)] (.int v :: st) H Q := w_x (show decode kb2 74 = .ok (.iload_n 3, 1) from by decide +kernel) rfl
theorem m2_75 : M2 75 ls (.int x :: st) H Q = if x < 0 then M2 91 ls st H Q else M2 78 ls st H Q := w_if (show decode kb2 75 = .ok (.ifCond .lt 16, 3) from by decide +kernel) (z_lt x) rfl
theorem m2_78 : M2 78 [.val (.ref r), l1, l2, l3] st H Q = M2 79 [.val (.ref r), l1, l2, l3] (.ref r :: st) H Q := w_x (show decode kb2 78 = .ok (.aload_n 0, 1) from by decide +kernel) rfl
theorem m2_79 : M2 79 ls st H Q = M2 80 ls (.int 0 :: st) H Q := w_con (show decode kb2 79 = .ok (.iconst 0, 1) from by decide +kernel) rfl (by decide)
theorem m2_80 : M2 80 ls (.int v :: .ref (b + 1) :: st) (put (b + 1) pre s A post) Q = M2 83 ls st (put (b + 1) pre (ou s 4 (nar .boolean v)) A post) Q := w_put (show decode kb2 80 = .ok (.putfield 78, 3) from by decide +kernel) pf2_78 put_o (Nat.succ_le_succ (Nat.zero_le _)) (by show 22 < 31; omega) rfl put_s4
theorem m2_83 : M2 83 [.val (.ref r), l1, l2, l3] st H Q = M2 84 [.val (.ref r), l1, l2, l3] (.ref r :: st) H Q := w_x (show decode kb2 83 = .ok (.aload_n 0, 1) from by decide +kernel) rfl
theorem m2_84 : M2 84 [l0, l1, l2, .val (.int v)] st H Q = M2 85 [l0, l1, l2, .val (.int v)] (.int v :: st) H Q := w_x (show decode kb2 84 = .ok (.iload_n 3, 1) from by decide +kernel) rfl
theorem m2_85 : M2 85 ls (.int v :: .ref (b + 1) :: st) (put (b + 1) pre s A post) Q = M2 88 ls st (put (b + 1) pre (ou s 3 v) A post) Q := w_put (show decode kb2 85 = .ok (.putfield 82, 3) from by decide +kernel) pf2_82 put_o (Nat.succ_le_succ (Nat.zero_le _)) (by show 23 < 31; omega) rfl put_s3
theorem m2_88 : M2 88 ls st H Q = M2 90 ls (.int (-7) :: st) H Q := w_con (show decode kb2 88 = .ok (.bipush (-7), 2) from by decide +kernel) rfl (by decide)
theorem m2_90 : M2 90 ls (.int z :: st) H Q = Q (some (.int z)) H := w_iret (show decode kb2 90 = .ok (.ireturn, 1) from by decide +kernel) rfl
theorem m2_91 : M2 91 [.val (.ref r), l1, l2, l3] st H Q = M2 92 [.val (.ref r), l1, l2, l3] (.ref r :: st) H Q := w_x (show decode kb2 91 = .ok (.aload_n 0, 1) from by decide +kernel) rfl
theorem m2_92 : M2 92 [l0, .val (.int v), l2, l3] st H Q = M2 93 [l0, .val (.int v), l2, l3] (.int v :: st) H Q := w_x (show decode kb2 92 = .ok (.iload_n 1, 1) from by decide +kernel) rfl
theorem m2_93 : M2 93 ls st H Q = M2 94 ls (.int 1 :: st) H Q := w_con (show decode kb2 93 = .ok (.iconst 1, 1) from by decide +kernel) rfl (by decide)
theorem m2_94 : M2 94 ls (.int y :: .int x :: st) H Q = M2 95 ls (.int (x + y) :: st) H Q := w_x (show decode kb2 94 = .ok (.iadd, 1) from by decide +kernel) rfl
theorem cr2_123 : vR tables_1 dn y2 123 = some (true, y24, prog_1_method_8_code, 3, none, 1, 41) := pR_of (cR_of (by decide +kernel) rc_24 dn_24 dn_2 (sig := ⟨[.int], none⟩) (by decide +kernel) (by decide +kernel) rfl rfl) (by decide +kernel) (by decide +kernel)
theorem m2_95 (a0 : Int32) : M2 95 ls [.int a0, .ref (b + 1)] (put (b + 1) pre s A post) Q = M24 0 [.val (.ref (b + 1)), .val (.int a0), .unset] [] (put (b + 1) pre s A post) (fun v H1 => M2 98 ls (v.toList ++ []) H1 Q) := w_virt (as := [.int a0]) (rest := []) (a := (b + 1)) (show decode kb2 95 = .ok (.invokevirtual 123, 3) from by decide +kernel) cr2_123 put_o rfl rfl (Nat.le_of_ble_eq_true rfl) (by show 2 ≤ 3; omega) rfl
theorem m2_98 : M2 98 [.val (.ref r), l1, l2, l3] st H Q = M2 99 [.val (.ref r), l1, l2, l3] (.ref r :: st) H Q := w_x (show decode kb2 98 = .ok (.aload_n 0, 1) from by decide +kernel) rfl
theorem m2_99 : M2 99 [l0, .val (.int v), l2, l3] st H Q = M2 100 [l0, .val (.int v), l2, l3] (.int v :: st) H Q := w_x (show decode kb2 99 = .ok (.iload_n 1, 1) from by decide +kernel) rfl
theorem m2_100 : M2 100 ls st H Q = M2 101 ls (.int 1 :: st) H Q := w_con (show decode kb2 100 = .ok (.iconst 1, 1) from by decide +kernel) rfl (by decide)
theorem m2_101 : M2 101 ls (.int y :: .int x :: st) H Q = M2 102 ls (.int (x + y) :: st) H Q := w_x (show decode kb2 101 = .ok (.iadd, 1) from by decide +kernel) rfl
theorem pf2_75 : pfR tables_1 y2.cls y2.name 75 = some ("ResponseTimeGate", 21, .int) := by decide +kernel
theorem m2_102 : M2 102 ls (.int v :: .ref (b + 1) :: st) (put (b + 1) pre s A post) Q = M2 105 ls st (put (b + 1) pre (ou s 1 v) A post) Q := w_put (show decode kb2 102 = .ok (.putfield 75, 3) from by decide +kernel) pf2_75 put_o (Nat.succ_le_succ (Nat.zero_le _)) (by show 21 < 31; omega) rfl put_s1
theorem m2_105 : M2 105 [.val (.ref r), l1, l2, l3] st H Q = M2 106 [.val (.ref r), l1, l2, l3] (.ref r :: st) H Q := w_x (show decode kb2 105 = .ok (.aload_n 0, 1) from by decide +kernel) rfl
theorem m2_106 : M2 106 ls st H Q = M2 107 ls (.int 0 :: st) H Q := w_con (show decode kb2 106 = .ok (.iconst 0, 1) from by decide +kernel) rfl (by decide)
theorem m2_107 : M2 107 ls (.int v :: .ref (b + 1) :: st) (put (b + 1) pre s A post) Q = M2 110 ls st (put (b + 1) pre (ou s 4 (nar .boolean v)) A post) Q := w_put (show decode kb2 107 = .ok (.putfield 78, 3) from by decide +kernel) pf2_78 put_o (Nat.succ_le_succ (Nat.zero_le _)) (by show 22 < 31; omega) rfl put_s4
theorem m2_110 : M2 110 [.val (.ref r), l1, l2, l3] st H Q = M2 111 [.val (.ref r), l1, l2, l3] (.ref r :: st) H Q := w_x (show decode kb2 110 = .ok (.aload_n 0, 1) from by decide +kernel) rfl
theorem m2_111 : M2 111 [l0, l1, .val (.int v), l3] st H Q = M2 112 [l0, l1, .val (.int v), l3] (.int v :: st) H Q := w_x (show decode kb2 111 = .ok (.iload_n 2, 1) from by decide +kernel) rfl
theorem pf2_85 : pfR tables_1 y2.cls y2.name 85 = some ("ResponseTimeGate", 24, .int) := by decide +kernel
theorem m2_112 : M2 112 ls (.int v :: .ref (b + 1) :: st) (put (b + 1) pre s A post) Q = M2 115 ls st (put (b + 1) pre (ou s 2 v) A post) Q := w_put (show decode kb2 112 = .ok (.putfield 85, 3) from by decide +kernel) pf2_85 put_o (Nat.succ_le_succ (Nat.zero_le _)) (by show 24 < 31; omega) rfl put_s2
theorem m2_115 : M2 115 [.val (.ref r), l1, l2, l3] st H Q = M2 116 [.val (.ref r), l1, l2, l3] (.ref r :: st) H Q := w_x (show decode kb2 115 = .ok (.aload_n 0, 1) from by decide +kernel) rfl
theorem m2_116 : M2 116 ls st H Q = M2 117 ls (.int (-1) :: st) H Q := w_con (show decode kb2 116 = .ok (.iconst (-1), 1) from by decide +kernel) rfl (by decide)
theorem m2_117 : M2 117 ls (.int v :: .ref (b + 1) :: st) (put (b + 1) pre s A post) Q = M2 120 ls st (put (b + 1) pre (ou s 3 v) A post) Q := w_put (show decode kb2 117 = .ok (.putfield 82, 3) from by decide +kernel) pf2_82 put_o (Nat.succ_le_succ (Nat.zero_le _)) (by show 23 < 31; omega) rfl put_s3
theorem m2_120 : M2 120 [.val (.ref r), l1, l2, l3] st H Q = M2 121 [.val (.ref r), l1, l2, l3] (.ref r :: st) H Q := w_x (show decode kb2 120 = .ok (.aload_n 0, 1) from by decide +kernel) rfl
theorem cr2_88 : vR tables_1 dn y2 88 = some (true, y1, prog_1_method_23_code, 2, none, 0, 42) := pR_of (cR_of (by decide +kernel) rc_1 dn_1 dn_2 (sig := ⟨[], none⟩) (by decide +kernel) (by decide +kernel) rfl rfl) (by decide +kernel) (by decide +kernel)
theorem m2_121 : M2 121 ls [.ref (b + 1)] (put (b + 1) pre s A post) Q = M1 0 [.val (.ref (b + 1)), .unset] [] (put (b + 1) pre s A post) (fun v H1 => M2 124 ls (v.toList ++ []) H1 Q) := w_virt (as := []) (rest := []) (a := (b + 1)) (show decode kb2 121 = .ok (.invokevirtual 88, 3) from by decide +kernel) cr2_88 put_o rfl rfl (Nat.le_of_ble_eq_true rfl) (by show 1 ≤ 2; omega) rfl
theorem m2_124 : M2 124 [l0, .val (.int v), l2, l3] st H Q = M2 125 [l0, .val (.int v), l2, l3] (.int v :: st) H Q := w_x (show decode kb2 124 = .ok (.iload_n 1, 1) from by decide +kernel) rfl
theorem m2_125 : M2 125 ls (.int z :: st) H Q = Q (some (.int z)) H := w_iret (show decode kb2 125 = .ok (.ireturn, 1) from by decide +kernel) rfl
theorem m3_0 : M3 0 [.val (.ref r)] st H Q = M3 1 [.val (.ref r)] (.ref r :: st) H Q := w_x (show decode kb3 0 = .ok (.aload_n 0, 1) from by decide +kernel) rfl
theorem m3_1 : M3 1 ls (.ref (b + 1) :: st) (put (b + 1) pre s A post) Q = M3 4 ls (.int (s 10) :: st) (put (b + 1) pre s A post) Q := w_get (show decode kb3 1 = .ok (.getfield 148, 3) from by decide +kernel) gf_148 put_o rfl
theorem m3_4 : M3 4 ls (.int z :: st) H Q = Q (some (.int z)) H := w_iret (show decode kb3 4 = .ok (.ireturn, 1) from by decide +kernel) rfl
theorem m4_0 : M4 0 [.val (.ref r)] st H Q = M4 1 [.val (.ref r)] (.ref r :: st) H Q := w_x (show decode kb4 0 = .ok (.aload_n 0, 1) from by decide +kernel) rfl
theorem m4_1 : M4 1 ls (.ref (b + 1) :: st) (put (b + 1) pre s A post) Q = M4 4 ls (.int (s 1) :: st) (put (b + 1) pre s A post) Q := w_get (show decode kb4 1 = .ok (.getfield 75, 3) from by decide +kernel) gf_75 put_o rfl
theorem m4_4 : M4 4 ls (.int z :: st) H Q = Q (some (.int z)) H := w_iret (show decode kb4 4 = .ok (.ireturn, 1) from by decide +kernel) rfl
theorem m5_0 : M5 0 [.val (.ref r)] st H Q = M5 1 [.val (.ref r)] (.ref r :: st) H Q := w_x (show decode kb5 0 = .ok (.aload_n 0, 1) from by decide +kernel) rfl
theorem m5_1 : M5 1 ls (.ref (b + 1) :: st) (put (b + 1) pre s A post) Q = M5 4 ls (.int (s 2) :: st) (put (b + 1) pre s A post) Q := w_get (show decode kb5 1 = .ok (.getfield 85, 3) from by decide +kernel) gf_85 put_o rfl
theorem m5_4 : M5 4 ls (.int z :: st) H Q = Q (some (.int z)) H := w_iret (show decode kb5 4 = .ok (.ireturn, 1) from by decide +kernel) rfl
theorem m6_0 : M6 0 [.val (.ref r)] st H Q = M6 1 [.val (.ref r)] (.ref r :: st) H Q := w_x (show decode kb6 0 = .ok (.aload_n 0, 1) from by decide +kernel) rfl
theorem m6_1 : M6 1 ls (.ref (b + 1) :: st) (put (b + 1) pre s A post) Q = M6 4 ls (.int (s 3) :: st) (put (b + 1) pre s A post) Q := w_get (show decode kb6 1 = .ok (.getfield 82, 3) from by decide +kernel) gf_82 put_o rfl
theorem m6_4 : M6 4 ls (.int z :: st) H Q = Q (some (.int z)) H := w_iret (show decode kb6 4 = .ok (.ireturn, 1) from by decide +kernel) rfl
theorem m7_0 : M7 0 [.val (.ref r)] st H Q = M7 1 [.val (.ref r)] (.ref r :: st) H Q := w_x (show decode kb7 0 = .ok (.aload_n 0, 1) from by decide +kernel) rfl
theorem m7_1 : M7 1 ls (.ref (b + 1) :: st) (put (b + 1) pre s A post) Q = M7 4 ls (.int (s 9) :: st) (put (b + 1) pre s A post) Q := w_get (show decode kb7 1 = .ok (.getfield 145, 3) from by decide +kernel) gf_145 put_o rfl
theorem m7_4 : M7 4 ls (.int z :: st) H Q = Q (some (.int z)) H := w_iret (show decode kb7 4 = .ok (.ireturn, 1) from by decide +kernel) rfl
theorem m8_0 : M8 0 [.val (.ref r), l1] st H Q = M8 1 [.val (.ref r), l1] (.ref r :: st) H Q := w_x (show decode kb8 0 = .ok (.aload_n 0, 1) from by decide +kernel) rfl
theorem m8_1 : M8 1 [l0, .val (.int v)] st H Q = M8 2 [l0, .val (.int v)] (.int v :: st) H Q := w_x (show decode kb8 1 = .ok (.iload_n 1, 1) from by decide +kernel) rfl
theorem cr8_142 : vR tables_1 dn y8 142 = some (true, y9, prog_1_method_16_code, 2, (some .boolean), 1, 0) := pR_of (cR_of (by decide +kernel) rc_9 dn_9 dn_8 (sig := ⟨[.int], some .boolean⟩) (by decide +kernel) (by decide +kernel) rfl rfl) (by decide +kernel) (by decide +kernel)
theorem m8_2 (a0 : Int32) : M8 2 ls [.int a0, .ref (b + 1)] (put (b + 1) pre s A post) Q = M9 0 [.val (.ref (b + 1)), .val (.int a0)] [] (put (b + 1) pre s A post) (fun v H1 => M8 5 ls (v.toList ++ []) H1 Q) := w_virt (as := [.int a0]) (rest := []) (a := (b + 1)) (show decode kb8 2 = .ok (.invokevirtual 142, 3) from by decide +kernel) cr8_142 put_o rfl rfl (Nat.le_of_ble_eq_true rfl) (by show 2 ≤ 2; omega) rfl
theorem m8_5 : M8 5 ls (.int x :: st) H Q = if x = 0 then M8 8 ls st H Q else M8 10 ls st H Q := w_ifN (show decode kb8 5 = .ok (.ifCond .ne 5, 3) from by decide +kernel) (z_ne x) rfl
theorem m8_8 : M8 8 ls st H Q = M8 9 ls (.int (-1) :: st) H Q := w_con (show decode kb8 8 = .ok (.iconst (-1), 1) from by decide +kernel) rfl (by decide)
theorem m8_9 : M8 9 ls (.int z :: st) H Q = Q (some (.int z)) H := w_iret (show decode kb8 9 = .ok (.ireturn, 1) from by decide +kernel) rfl
theorem m8_10 : M8 10 [.val (.ref r), l1] st H Q = M8 11 [.val (.ref r), l1] (.ref r :: st) H Q := w_x (show decode kb8 10 = .ok (.aload_n 0, 1) from by decide +kernel) rfl
theorem m8_11 : M8 11 ls (.ref (b + 1) :: st) (put (b + 1) pre s A post) Q = M8 14 ls (.ref ((b + 1) + 7) :: st) (put (b + 1) pre s A post) Q := w_get (show decode kb8 11 = .ok (.getfield 28, 3) from by decide +kernel) gf_28 put_o rfl
theorem m8_14 : M8 14 [l0, .val (.int v)] st H Q = M8 15 [l0, .val (.int v)] (.int v :: st) H Q := w_x (show decode kb8 14 = .ok (.iload_n 1, 1) from by decide +kernel) rfl
theorem m8_15  : M8 15 ls (.int j :: .ref ((b + 1) + 7) :: st) (put (b + 1) pre s A post) Q = (inB j (A 6) ∧ M8 16 ls (.int (getA (A 6) j) :: st) (put (b + 1) pre s A post) Q) := w_ild (show decode kb8 15 = .ok (.iaload, 1) from by decide +kernel) rfl put_a6
theorem m8_16 : M8 16 ls (.int z :: st) H Q = Q (some (.int z)) H := w_iret (show decode kb8 16 = .ok (.ireturn, 1) from by decide +kernel) rfl
theorem m9_0 : M9 0 [l0, .val (.int v)] st H Q = M9 1 [l0, .val (.int v)] (.int v :: st) H Q := w_x (show decode kb9 0 = .ok (.iload_n 1, 1) from by decide +kernel) rfl
theorem m9_1 : M9 1 ls (.int x :: st) H Q = if x < 0 then M9 16 ls st H Q else M9 4 ls st H Q := w_if (show decode kb9 1 = .ok (.ifCond .lt 15, 3) from by decide +kernel) (z_lt x) rfl
theorem m9_4 : M9 4 [l0, .val (.int v)] st H Q = M9 5 [l0, .val (.int v)] (.int v :: st) H Q := w_x (show decode kb9 4 = .ok (.iload_n 1, 1) from by decide +kernel) rfl
theorem m9_5 : M9 5 [.val (.ref r), l1] st H Q = M9 6 [.val (.ref r), l1] (.ref r :: st) H Q := w_x (show decode kb9 5 = .ok (.aload_n 0, 1) from by decide +kernel) rfl
theorem m9_6 : M9 6 ls (.ref (b + 1) :: st) (put (b + 1) pre s A post) Q = M9 9 ls (.int (s 1) :: st) (put (b + 1) pre s A post) Q := w_get (show decode kb9 6 = .ok (.getfield 75, 3) from by decide +kernel) gf_75 put_o rfl
theorem m9_9 : M9 9 ls (.int y :: .int x :: st) H Q = if x < y then M9 12 ls st H Q else M9 16 ls st H Q := w_icmpN (show decode kb9 9 = .ok (.if_icmp .ge 7, 3) from by decide +kernel) (i_ge x y) rfl
theorem m9_12 : M9 12 ls st H Q = M9 13 ls (.int 1 :: st) H Q := w_con (show decode kb9 12 = .ok (.iconst 1, 1) from by decide +kernel) rfl (by decide)
theorem m9_13 : M9 13 ls st H Q = M9 17 ls st H Q := w_x (show decode kb9 13 = .ok (.goto 4, 3) from by decide +kernel) rfl
theorem m9_16 : M9 16 ls st H Q = M9 17 ls (.int 0 :: st) H Q := w_con (show decode kb9 16 = .ok (.iconst 0, 1) from by decide +kernel) rfl (by decide)
theorem m9_17 : M9 17 ls (.int z :: st) H Q = Q (some (.int (nar .boolean z))) H := w_iretN (show decode kb9 17 = .ok (.ireturn, 1) from by decide +kernel) rfl (by simp)
theorem m10_0 : M10 0 [.val (.ref r), l1] st H Q = M10 1 [.val (.ref r), l1] (.ref r :: st) H Q := w_x (show decode kb10 0 = .ok (.aload_n 0, 1) from by decide +kernel) rfl
theorem m10_1 : M10 1 [l0, .val (.int v)] st H Q = M10 2 [l0, .val (.int v)] (.int v :: st) H Q := w_x (show decode kb10 1 = .ok (.iload_n 1, 1) from by decide +kernel) rfl
theorem cr10_142 : vR tables_1 dn y10 142 = some (true, y9, prog_1_method_16_code, 2, (some .boolean), 1, 0) := pR_of (cR_of (by decide +kernel) rc_9 dn_9 dn_10 (sig := ⟨[.int], some .boolean⟩) (by decide +kernel) (by decide +kernel) rfl rfl) (by decide +kernel) (by decide +kernel)
theorem m10_2 (a0 : Int32) : M10 2 ls [.int a0, .ref (b + 1)] (put (b + 1) pre s A post) Q = M9 0 [.val (.ref (b + 1)), .val (.int a0)] [] (put (b + 1) pre s A post) (fun v H1 => M10 5 ls (v.toList ++ []) H1 Q) := w_virt (as := [.int a0]) (rest := []) (a := (b + 1)) (show decode kb10 2 = .ok (.invokevirtual 142, 3) from by decide +kernel) cr10_142 put_o rfl rfl (Nat.le_of_ble_eq_true rfl) (by show 2 ≤ 2; omega) rfl
theorem m10_5 : M10 5 ls (.int x :: st) H Q = if x = 0 then M10 8 ls st H Q else M10 10 ls st H Q := w_ifN (show decode kb10 5 = .ok (.ifCond .ne 5, 3) from by decide +kernel) (z_ne x) rfl
theorem m10_8 : M10 8 ls st H Q = M10 9 ls (.int (-1) :: st) H Q := w_con (show decode kb10 8 = .ok (.iconst (-1), 1) from by decide +kernel) rfl (by decide)
theorem m10_9 : M10 9 ls (.int z :: st) H Q = Q (some (.int z)) H := w_iret (show decode kb10 9 = .ok (.ireturn, 1) from by decide +kernel) rfl
theorem m10_10 : M10 10 [.val (.ref r), l1] st H Q = M10 11 [.val (.ref r), l1] (.ref r :: st) H Q := w_x (show decode kb10 10 = .ok (.aload_n 0, 1) from by decide +kernel) rfl
theorem m10_11 : M10 11 ls (.ref (b + 1) :: st) (put (b + 1) pre s A post) Q = M10 14 ls (.ref ((b + 1) + 19) :: st) (put (b + 1) pre s A post) Q := w_get (show decode kb10 11 = .ok (.getfield 65, 3) from by decide +kernel) gf_65 put_o rfl
theorem m10_14 : M10 14 [l0, .val (.int v)] st H Q = M10 15 [l0, .val (.int v)] (.int v :: st) H Q := w_x (show decode kb10 14 = .ok (.iload_n 1, 1) from by decide +kernel) rfl
theorem m10_15  : M10 15 ls (.int j :: .ref ((b + 1) + 19) :: st) (put (b + 1) pre s A post) Q = (inB j (A 18) ∧ M10 16 ls (.int (getA (A 18) j) :: st) (put (b + 1) pre s A post) Q) := w_ild (show decode kb10 15 = .ok (.iaload, 1) from by decide +kernel) rfl put_a18
theorem m10_16 : M10 16 ls (.int z :: st) H Q = Q (some (.int z)) H := w_iret (show decode kb10 16 = .ok (.ireturn, 1) from by decide +kernel) rfl
theorem m11_0 : M11 0 [l0, .val (.int v)] st H Q = M11 1 [l0, .val (.int v)] (.int v :: st) H Q := w_x (show decode kb11 0 = .ok (.iload_n 1, 1) from by decide +kernel) rfl
theorem m11_1 : M11 1 ls (.int x :: st) H Q = if x < 0 then M11 9 ls st H Q else M11 4 ls st H Q := w_if (show decode kb11 1 = .ok (.ifCond .lt 8, 3) from by decide +kernel) (z_lt x) rfl
theorem m11_4 : M11 4 [l0, .val (.int v)] st H Q = M11 5 [l0, .val (.int v)] (.int v :: st) H Q := w_x (show decode kb11 4 = .ok (.iload_n 1, 1) from by decide +kernel) rfl
theorem m11_5 : M11 5 ls st H Q = M11 6 ls (.int 4 :: st) H Q := w_con (show decode kb11 5 = .ok (.iconst 4, 1) from by decide +kernel) rfl (by decide)
theorem m11_6 : M11 6 ls (.int y :: .int x :: st) H Q = if x < y then M11 11 ls st H Q else M11 9 ls st H Q := w_icmp (show decode kb11 6 = .ok (.if_icmp .lt 5, 3) from by decide +kernel) (i_lt x y) rfl
theorem m11_9 : M11 9 ls st H Q = M11 10 ls (.int (-1) :: st) H Q := w_con (show decode kb11 9 = .ok (.iconst (-1), 1) from by decide +kernel) rfl (by decide)
theorem m11_10 : M11 10 ls (.int z :: st) H Q = Q (some (.int z)) H := w_iret (show decode kb11 10 = .ok (.ireturn, 1) from by decide +kernel) rfl
theorem m11_11 : M11 11 [.val (.ref r), l1] st H Q = M11 12 [.val (.ref r), l1] (.ref r :: st) H Q := w_x (show decode kb11 11 = .ok (.aload_n 0, 1) from by decide +kernel) rfl
theorem m11_12 : M11 12 ls (.ref (b + 1) :: st) (put (b + 1) pre s A post) Q = M11 15 ls (.ref ((b + 1) + 9) :: st) (put (b + 1) pre s A post) Q := w_get (show decode kb11 12 = .ok (.getfield 34, 3) from by decide +kernel) gf_34 put_o rfl
theorem m11_15 : M11 15 [l0, .val (.int v)] st H Q = M11 16 [l0, .val (.int v)] (.int v :: st) H Q := w_x (show decode kb11 15 = .ok (.iload_n 1, 1) from by decide +kernel) rfl
theorem m11_16  : M11 16 ls (.int j :: .ref ((b + 1) + 9) :: st) (put (b + 1) pre s A post) Q = (inB j (A 8) ∧ M11 17 ls (.int (getA (A 8) j) :: st) (put (b + 1) pre s A post) Q) := w_ild (show decode kb11 16 = .ok (.iaload, 1) from by decide +kernel) rfl put_a8
theorem m11_17 : M11 17 ls (.int z :: st) H Q = Q (some (.int z)) H := w_iret (show decode kb11 17 = .ok (.ireturn, 1) from by decide +kernel) rfl
theorem m12_0 : M12 0 [.val (.ref r), l1, l2, l3] st H Q = M12 1 [.val (.ref r), l1, l2, l3] (.ref r :: st) H Q := w_x (show decode kb12 0 = .ok (.aload_n 0, 1) from by decide +kernel) rfl
theorem m12_1 : M12 1 ls (.ref (b + 1) :: st) (put (b + 1) pre s A post) Q = M12 4 ls (.int (s 4) :: st) (put (b + 1) pre s A post) Q := w_get (show decode kb12 1 = .ok (.getfield 78, 3) from by decide +kernel) gf_78 put_o rfl
theorem m12_4 : M12 4 ls (.int x :: st) H Q = if x = 0 then M12 7 ls st H Q else M12 10 ls st H Q := w_ifN (show decode kb12 4 = .ok (.ifCond .ne 6, 3) from by decide +kernel) (z_ne x) rfl
theorem m12_7 : M12 7 ls st H Q = M12 9 ls (.int (-4) :: st) H Q := w_con (show decode kb12 7 = .ok (.bipush (-4), 2) from by decide +kernel) rfl (by decide)
theorem m12_9 : M12 9 ls (.int z :: st) H Q = Q (some (.int z)) H := w_iret (show decode kb12 9 = .ok (.ireturn, 1) from by decide +kernel) rfl
theorem m12_10 : M12 10 [l0, .val (.int v), l2, l3] st H Q = M12 11 [l0, .val (.int v), l2, l3] (.int v :: st) H Q := w_x (show decode kb12 10 = .ok (.iload_n 1, 1) from by decide +kernel) rfl
theorem m12_11 : M12 11 ls (.int x :: st) H Q = if x < 0 then M12 19 ls st H Q else M12 14 ls st H Q := w_if (show decode kb12 11 = .ok (.ifCond .lt 8, 3) from by decide +kernel) (z_lt x) rfl
theorem m12_14 : M12 14 [l0, .val (.int v), l2, l3] st H Q = M12 15 [l0, .val (.int v), l2, l3] (.int v :: st) H Q := w_x (show decode kb12 14 = .ok (.iload_n 1, 1) from by decide +kernel) rfl
theorem m12_15 : M12 15 ls st H Q = M12 16 ls (.int 4 :: st) H Q := w_con (show decode kb12 15 = .ok (.iconst 4, 1) from by decide +kernel) rfl (by decide)
theorem m12_16 : M12 16 ls (.int y :: .int x :: st) H Q = if x < y then M12 22 ls st H Q else M12 19 ls st H Q := w_icmp (show decode kb12 16 = .ok (.if_icmp .lt 6, 3) from by decide +kernel) (i_lt x y) rfl
theorem m12_19 : M12 19 ls st H Q = M12 21 ls (.int (-2) :: st) H Q := w_con (show decode kb12 19 = .ok (.bipush (-2), 2) from by decide +kernel) rfl (by decide)
theorem m12_21 : M12 21 ls (.int z :: st) H Q = Q (some (.int z)) H := w_iret (show decode kb12 21 = .ok (.ireturn, 1) from by decide +kernel) rfl
theorem m12_22 : M12 22 [l0, l1, .val (.int v), l3] st H Q = M12 23 [l0, l1, .val (.int v), l3] (.int v :: st) H Q := w_x (show decode kb12 22 = .ok (.iload_n 2, 1) from by decide +kernel) rfl
theorem m12_23 : M12 23 ls (.int x :: st) H Q = if x < 0 then M12 31 ls st H Q else M12 26 ls st H Q := w_if (show decode kb12 23 = .ok (.ifCond .lt 8, 3) from by decide +kernel) (z_lt x) rfl
theorem m12_26 : M12 26 [l0, l1, l2, .val (.int v)] st H Q = M12 27 [l0, l1, l2, .val (.int v)] (.int v :: st) H Q := w_x (show decode kb12 26 = .ok (.iload_n 3, 1) from by decide +kernel) rfl
theorem m12_27 : M12 27 ls st H Q = M12 28 ls (.int 1 :: st) H Q := w_con (show decode kb12 27 = .ok (.iconst 1, 1) from by decide +kernel) rfl (by decide)
theorem m12_28 : M12 28 ls (.int y :: .int x :: st) H Q = if x < y then M12 31 ls st H Q else M12 34 ls st H Q := w_icmpN (show decode kb12 28 = .ok (.if_icmp .ge 6, 3) from by decide +kernel) (i_ge x y) rfl
theorem m12_31 : M12 31 ls st H Q = M12 33 ls (.int (-2) :: st) H Q := w_con (show decode kb12 31 = .ok (.bipush (-2), 2) from by decide +kernel) rfl (by decide)
theorem m12_33 : M12 33 ls (.int z :: st) H Q = Q (some (.int z)) H := w_iret (show decode kb12 33 = .ok (.ireturn, 1) from by decide +kernel) rfl
theorem m12_34 : M12 34 [l0, l1, .val (.int v), l3] st H Q = M12 35 [l0, l1, .val (.int v), l3] (.int v :: st) H Q := w_x (show decode kb12 34 = .ok (.iload_n 2, 1) from by decide +kernel) rfl
theorem m12_35 : M12 35 [.val (.ref r), l1, l2, l3] st H Q = M12 36 [.val (.ref r), l1, l2, l3] (.ref r :: st) H Q := w_x (show decode kb12 35 = .ok (.aload_n 0, 1) from by decide +kernel) rfl
theorem m12_36 : M12 36 ls (.ref (b + 1) :: st) (put (b + 1) pre s A post) Q = M12 39 ls (.int (s 7) :: st) (put (b + 1) pre s A post) Q := w_get (show decode kb12 36 = .ok (.getfield 101, 3) from by decide +kernel) gf_101 put_o rfl
theorem m12_39 : M12 39 ls (.int y :: .int x :: st) H Q = if y < x then M12 52 ls st H Q else M12 42 ls st H Q := w_icmp (show decode kb12 39 = .ok (.if_icmp .gt 13, 3) from by decide +kernel) (i_gt x y) rfl
theorem m12_42 : M12 42 [l0, l1, l2, .val (.int v)] st H Q = M12 43 [l0, l1, l2, .val (.int v)] (.int v :: st) H Q := w_x (show decode kb12 42 = .ok (.iload_n 3, 1) from by decide +kernel) rfl
theorem m12_43 : M12 43 [.val (.ref r), l1, l2, l3] st H Q = M12 44 [.val (.ref r), l1, l2, l3] (.ref r :: st) H Q := w_x (show decode kb12 43 = .ok (.aload_n 0, 1) from by decide +kernel) rfl
theorem m12_44 : M12 44 ls (.ref (b + 1) :: st) (put (b + 1) pre s A post) Q = M12 47 ls (.int (s 7) :: st) (put (b + 1) pre s A post) Q := w_get (show decode kb12 44 = .ok (.getfield 101, 3) from by decide +kernel) gf_101 put_o rfl
theorem m12_47 : M12 47 [l0, l1, .val (.int v), l3] st H Q = M12 48 [l0, l1, .val (.int v), l3] (.int v :: st) H Q := w_x (show decode kb12 47 = .ok (.iload_n 2, 1) from by decide +kernel) rfl
theorem m12_48 : M12 48 ls (.int y :: .int x :: st) H Q = M12 49 ls (.int (x - y) :: st) H Q := w_x (show decode kb12 48 = .ok (.isub, 1) from by decide +kernel) rfl
theorem m12_49 : M12 49 ls (.int y :: .int x :: st) H Q = if y < x then M12 52 ls st H Q else M12 55 ls st H Q := w_icmpN (show decode kb12 49 = .ok (.if_icmp .le 6, 3) from by decide +kernel) (i_le x y) rfl
theorem m12_52 : M12 52 ls st H Q = M12 54 ls (.int (-2) :: st) H Q := w_con (show decode kb12 52 = .ok (.bipush (-2), 2) from by decide +kernel) rfl (by decide)
theorem m12_54 : M12 54 ls (.int z :: st) H Q = Q (some (.int z)) H := w_iret (show decode kb12 54 = .ok (.ireturn, 1) from by decide +kernel) rfl
theorem m12_55 : M12 55 [.val (.ref r), l1, l2, l3] st H Q = M12 56 [.val (.ref r), l1, l2, l3] (.ref r :: st) H Q := w_x (show decode kb12 55 = .ok (.aload_n 0, 1) from by decide +kernel) rfl
theorem m12_56 : M12 56 ls (.ref (b + 1) :: st) (put (b + 1) pre s A post) Q = M12 59 ls (.ref ((b + 1) + 11) :: st) (put (b + 1) pre s A post) Q := w_get (show decode kb12 56 = .ok (.getfield 40, 3) from by decide +kernel) gf_40 put_o rfl
theorem m12_59 : M12 59 [l0, .val (.int v), l2, l3] st H Q = M12 60 [l0, .val (.int v), l2, l3] (.int v :: st) H Q := w_x (show decode kb12 59 = .ok (.iload_n 1, 1) from by decide +kernel) rfl
theorem m12_60  : M12 60 ls (.int j :: .ref ((b + 1) + 11) :: st) (put (b + 1) pre s A post) Q = (inB j (A 10) ∧ M12 61 ls (.int (getA (A 10) j) :: st) (put (b + 1) pre s A post) Q) := w_ild (show decode kb12 60 = .ok (.iaload, 1) from by decide +kernel) rfl put_a10
theorem m12_61 : M12 61 ls (.int x :: st) H Q = if 0 < x then M12 64 ls st H Q else M12 67 ls st H Q := w_ifN (show decode kb12 61 = .ok (.ifCond .le 6, 3) from by decide +kernel) (z_le x) rfl
theorem m12_64 : M12 64 ls st H Q = M12 66 ls (.int (-5) :: st) H Q := w_con (show decode kb12 64 = .ok (.bipush (-5), 2) from by decide +kernel) rfl (by decide)
theorem m12_66 : M12 66 ls (.int z :: st) H Q = Q (some (.int z)) H := w_iret (show decode kb12 66 = .ok (.ireturn, 1) from by decide +kernel) rfl
theorem m12_67 : M12 67 [.val (.ref r), l1, l2, l3] st H Q = M12 68 [.val (.ref r), l1, l2, l3] (.ref r :: st) H Q := w_x (show decode kb12 67 = .ok (.aload_n 0, 1) from by decide +kernel) rfl
theorem m12_68 : M12 68 [l0, l1, .val (.int v), l3] st H Q = M12 69 [l0, l1, .val (.int v), l3] (.int v :: st) H Q := w_x (show decode kb12 68 = .ok (.iload_n 2, 1) from by decide +kernel) rfl
theorem m12_69 : M12 69 [l0, l1, l2, .val (.int v)] st H Q = M12 70 [l0, l1, l2, .val (.int v)] (.int v :: st) H Q := w_x (show decode kb12 69 = .ok (.iload_n 3, 1) from by decide +kernel) rfl
theorem cr12_107 : vR tables_1 dn y12 107 = some (true, y15, prog_1_method_5_code, 6, (some .boolean), 2, 0) := pR_of (cR_of (by decide +kernel) rc_15 dn_15 dn_12 (sig := ⟨[.int, .int], some .boolean⟩) (by decide +kernel) (by decide +kernel) rfl rfl) (by decide +kernel) (by decide +kernel)
theorem m12_70 (a0 : Int32) (a1 : Int32) : M12 70 ls [.int a1, .int a0, .ref (b + 1)] (put (b + 1) pre s A post) Q = M15 0 [.val (.ref (b + 1)), .val (.int a0), .val (.int a1), .unset, .unset, .unset] [] (put (b + 1) pre s A post) (fun v H1 => M12 73 ls (v.toList ++ []) H1 Q) := w_virt (as := [.int a1, .int a0]) (rest := []) (a := (b + 1)) (show decode kb12 70 = .ok (.invokevirtual 107, 3) from by decide +kernel) cr12_107 put_o rfl rfl (Nat.le_of_ble_eq_true rfl) (by show 3 ≤ 6; omega) rfl
theorem m12_73 : M12 73 ls (.int x :: st) H Q = if x = 0 then M12 79 ls st H Q else M12 76 ls st H Q := w_if (show decode kb12 73 = .ok (.ifCond .eq 6, 3) from by decide +kernel) (z_eq x) rfl
theorem m12_76 : M12 76 ls st H Q = M12 78 ls (.int (-5) :: st) H Q := w_con (show decode kb12 76 = .ok (.bipush (-5), 2) from by decide +kernel) rfl (by decide)
theorem m12_78 : M12 78 ls (.int z :: st) H Q = Q (some (.int z)) H := w_iret (show decode kb12 78 = .ok (.ireturn, 1) from by decide +kernel) rfl
theorem m12_79 : M12 79 [.val (.ref r), l1, l2, l3] st H Q = M12 80 [.val (.ref r), l1, l2, l3] (.ref r :: st) H Q := w_x (show decode kb12 79 = .ok (.aload_n 0, 1) from by decide +kernel) rfl
theorem m12_80 : M12 80 ls (.ref (b + 1) :: st) (put (b + 1) pre s A post) Q = M12 83 ls (.ref ((b + 1) + 10) :: st) (put (b + 1) pre s A post) Q := w_get (show decode kb12 80 = .ok (.getfield 37, 3) from by decide +kernel) gf_37 put_o rfl
theorem m12_83 : M12 83 [l0, .val (.int v), l2, l3] st H Q = M12 84 [l0, .val (.int v), l2, l3] (.int v :: st) H Q := w_x (show decode kb12 83 = .ok (.iload_n 1, 1) from by decide +kernel) rfl
theorem m12_84 : M12 84 [l0, l1, .val (.int v), l3] st H Q = M12 85 [l0, l1, .val (.int v), l3] (.int v :: st) H Q := w_x (show decode kb12 84 = .ok (.iload_n 2, 1) from by decide +kernel) rfl
theorem m12_85  : M12 85 ls (.int v :: .int j :: .ref ((b + 1) + 10) :: st) (put (b + 1) pre s A post) Q = (inB j (A 9) ∧ M12 86 ls st (put (b + 1) pre s (ou A 9 (setA (A 9) j v)) post) Q) := w_ist (show decode kb12 85 = .ok (.iastore, 1) from by decide +kernel) rfl put_a9 (by omega) rfl put_w9
theorem m12_86 : M12 86 [.val (.ref r), l1, l2, l3] st H Q = M12 87 [.val (.ref r), l1, l2, l3] (.ref r :: st) H Q := w_x (show decode kb12 86 = .ok (.aload_n 0, 1) from by decide +kernel) rfl
theorem m12_87 : M12 87 ls (.ref (b + 1) :: st) (put (b + 1) pre s A post) Q = M12 90 ls (.ref ((b + 1) + 11) :: st) (put (b + 1) pre s A post) Q := w_get (show decode kb12 87 = .ok (.getfield 40, 3) from by decide +kernel) gf_40 put_o rfl
theorem m12_90 : M12 90 [l0, .val (.int v), l2, l3] st H Q = M12 91 [l0, .val (.int v), l2, l3] (.int v :: st) H Q := w_x (show decode kb12 90 = .ok (.iload_n 1, 1) from by decide +kernel) rfl
theorem m12_91 : M12 91 [l0, l1, l2, .val (.int v)] st H Q = M12 92 [l0, l1, l2, .val (.int v)] (.int v :: st) H Q := w_x (show decode kb12 91 = .ok (.iload_n 3, 1) from by decide +kernel) rfl
theorem m12_92  : M12 92 ls (.int v :: .int j :: .ref ((b + 1) + 11) :: st) (put (b + 1) pre s A post) Q = (inB j (A 10) ∧ M12 93 ls st (put (b + 1) pre s (ou A 10 (setA (A 10) j v)) post) Q) := w_ist (show decode kb12 92 = .ok (.iastore, 1) from by decide +kernel) rfl put_a10 (by omega) rfl put_w10
theorem m12_93 : M12 93 ls st H Q = M12 94 ls (.int 0 :: st) H Q := w_con (show decode kb12 93 = .ok (.iconst 0, 1) from by decide +kernel) rfl (by decide)
theorem m12_94 : M12 94 ls (.int z :: st) H Q = Q (some (.int z)) H := w_iret (show decode kb12 94 = .ok (.ireturn, 1) from by decide +kernel) rfl
theorem m13_0 : M13 0 [.val (.ref r), l1, l2, l3, l4, l5] st H Q = M13 1 [.val (.ref r), l1, l2, l3, l4, l5] (.ref r :: st) H Q := w_x (show decode kb13 0 = .ok (.aload_n 0, 1) from by decide +kernel) rfl
theorem m13_1 : M13 1 ls (.ref (b + 1) :: st) (put (b + 1) pre s A post) Q = M13 4 ls (.int (s 1) :: st) (put (b + 1) pre s A post) Q := w_get (show decode kb13 1 = .ok (.getfield 75, 3) from by decide +kernel) gf_75 put_o rfl
theorem m13_4 : M13 4 [.val (.ref r), l1, l2, l3, l4, l5] st H Q = M13 5 [.val (.ref r), l1, l2, l3, l4, l5] (.ref r :: st) H Q := w_x (show decode kb13 4 = .ok (.aload_n 0, 1) from by decide +kernel) rfl
theorem m13_5 : M13 5 ls (.ref (b + 1) :: st) (put (b + 1) pre s A post) Q = M13 8 ls (.int (s 0) :: st) (put (b + 1) pre s A post) Q := w_get (show decode kb13 5 = .ok (.getfield 71, 3) from by decide +kernel) gf_71 put_o rfl
theorem m13_8 : M13 8 ls (.int y :: .int x :: st) H Q = if x < y then M13 13 ls st H Q else M13 11 ls st H Q := w_icmp (show decode kb13 8 = .ok (.if_icmp .lt 5, 3) from by decide +kernel) (i_lt x y) rfl
theorem m13_11 : M13 11 ls st H Q = M13 12 ls (.int (-1) :: st) H Q := w_con (show decode kb13 11 = .ok (.iconst (-1), 1) from by decide +kernel) rfl (by decide)
theorem m13_12 : M13 12 ls (.int z :: st) H Q = Q (some (.int z)) H := w_iret (show decode kb13 12 = .ok (.ireturn, 1) from by decide +kernel) rfl
theorem m13_13 : M13 13 [l0, .val (.int v), l2, l3, l4, l5] st H Q = M13 14 [l0, .val (.int v), l2, l3, l4, l5] (.int v :: st) H Q := w_x (show decode kb13 13 = .ok (.iload_n 1, 1) from by decide +kernel) rfl
theorem m13_14 : M13 14 ls st H Q = M13 15 ls (.int 1 :: st) H Q := w_con (show decode kb13 14 = .ok (.iconst 1, 1) from by decide +kernel) rfl (by decide)
theorem m13_15 : M13 15 ls (.int y :: .int x :: st) H Q = if x < y then M13 25 ls st H Q else M13 18 ls st H Q := w_icmp (show decode kb13 15 = .ok (.if_icmp .lt 10, 3) from by decide +kernel) (i_lt x y) rfl
theorem m13_18 : M13 18 [l0, .val (.int v), l2, l3, l4, l5] st H Q = M13 19 [l0, .val (.int v), l2, l3, l4, l5] (.int v :: st) H Q := w_x (show decode kb13 18 = .ok (.iload_n 1, 1) from by decide +kernel) rfl
theorem m13_19 : M13 19 ls st H Q = M13 22 ls (.int 840 :: st) H Q := w_con (show decode kb13 19 = .ok (.sipush 840, 3) from by decide +kernel) rfl (by decide)
theorem m13_22 : M13 22 ls (.int y :: .int x :: st) H Q = if y < x then M13 25 ls st H Q else M13 28 ls st H Q := w_icmpN (show decode kb13 22 = .ok (.if_icmp .le 6, 3) from by decide +kernel) (i_le x y) rfl
theorem m13_25 : M13 25 ls st H Q = M13 27 ls (.int (-2) :: st) H Q := w_con (show decode kb13 25 = .ok (.bipush (-2), 2) from by decide +kernel) rfl (by decide)
theorem m13_27 : M13 27 ls (.int z :: st) H Q = Q (some (.int z)) H := w_iret (show decode kb13 27 = .ok (.ireturn, 1) from by decide +kernel) rfl
theorem m13_28 : M13 28 [l0, l1, .val (.int v), l3, l4, l5] st H Q = M13 29 [l0, l1, .val (.int v), l3, l4, l5] (.int v :: st) H Q := w_x (show decode kb13 28 = .ok (.iload_n 2, 1) from by decide +kernel) rfl
theorem m13_29 : M13 29 ls st H Q = M13 30 ls (.int 1 :: st) H Q := w_con (show decode kb13 29 = .ok (.iconst 1, 1) from by decide +kernel) rfl (by decide)
theorem m13_30 : M13 30 ls (.int y :: .int x :: st) H Q = if x < y then M13 38 ls st H Q else M13 33 ls st H Q := w_icmp (show decode kb13 30 = .ok (.if_icmp .lt 8, 3) from by decide +kernel) (i_lt x y) rfl
theorem m13_33 : M13 33 [l0, l1, .val (.int v), l3, l4, l5] st H Q = M13 34 [l0, l1, .val (.int v), l3, l4, l5] (.int v :: st) H Q := w_x (show decode kb13 33 = .ok (.iload_n 2, 1) from by decide +kernel) rfl
theorem m13_34 : M13 34 [l0, .val (.int v), l2, l3, l4, l5] st H Q = M13 35 [l0, .val (.int v), l2, l3, l4, l5] (.int v :: st) H Q := w_x (show decode kb13 34 = .ok (.iload_n 1, 1) from by decide +kernel) rfl
theorem m13_35 : M13 35 ls (.int y :: .int x :: st) H Q = if y < x then M13 38 ls st H Q else M13 41 ls st H Q := w_icmpN (show decode kb13 35 = .ok (.if_icmp .le 6, 3) from by decide +kernel) (i_le x y) rfl
theorem m13_38 : M13 38 ls st H Q = M13 40 ls (.int (-2) :: st) H Q := w_con (show decode kb13 38 = .ok (.bipush (-2), 2) from by decide +kernel) rfl (by decide)
theorem m13_40 : M13 40 ls (.int z :: st) H Q = Q (some (.int z)) H := w_iret (show decode kb13 40 = .ok (.ireturn, 1) from by decide +kernel) rfl
theorem m13_41 : M13 41 [l0, l1, l2, .val (.int v), l4, l5] st H Q = M13 42 [l0, l1, l2, .val (.int v), l4, l5] (.int v :: st) H Q := w_x (show decode kb13 41 = .ok (.iload_n 3, 1) from by decide +kernel) rfl
theorem m13_42 : M13 42 ls st H Q = M13 43 ls (.int 1 :: st) H Q := w_con (show decode kb13 42 = .ok (.iconst 1, 1) from by decide +kernel) rfl (by decide)
theorem m13_43 : M13 43 ls (.int y :: .int x :: st) H Q = if x < y then M13 51 ls st H Q else M13 46 ls st H Q := w_icmp (show decode kb13 43 = .ok (.if_icmp .lt 8, 3) from by decide +kernel) (i_lt x y) rfl
theorem m13_46 : M13 46 [l0, l1, l2, .val (.int v), l4, l5] st H Q = M13 47 [l0, l1, l2, .val (.int v), l4, l5] (.int v :: st) H Q := w_x (show decode kb13 46 = .ok (.iload_n 3, 1) from by decide +kernel) rfl
theorem m13_47 : M13 47 [l0, l1, .val (.int v), l3, l4, l5] st H Q = M13 48 [l0, l1, .val (.int v), l3, l4, l5] (.int v :: st) H Q := w_x (show decode kb13 47 = .ok (.iload_n 2, 1) from by decide +kernel) rfl
theorem m13_48 : M13 48 ls (.int y :: .int x :: st) H Q = if y < x then M13 51 ls st H Q else M13 54 ls st H Q := w_icmpN (show decode kb13 48 = .ok (.if_icmp .le 6, 3) from by decide +kernel) (i_le x y) rfl
theorem m13_51 : M13 51 ls st H Q = M13 53 ls (.int (-2) :: st) H Q := w_con (show decode kb13 51 = .ok (.bipush (-2), 2) from by decide +kernel) rfl (by decide)
theorem m13_53 : M13 53 ls (.int z :: st) H Q = Q (some (.int z)) H := w_iret (show decode kb13 53 = .ok (.ireturn, 1) from by decide +kernel) rfl
theorem m13_54 : M13 54 [l0, l1, l2, l3, .val (.int v), l5] st H Q = M13 56 [l0, l1, l2, l3, .val (.int v), l5] (.int v :: st) H Q := w_x (show decode kb13 54 = .ok (.iload 4, 2) from by decide +kernel) rfl
theorem m13_56 : M13 56 ls st H Q = M13 57 ls (.int 1 :: st) H Q := w_con (show decode kb13 56 = .ok (.iconst 1, 1) from by decide +kernel) rfl (by decide)
theorem m13_57 : M13 57 ls (.int y :: .int x :: st) H Q = if x < y then M13 67 ls st H Q else M13 60 ls st H Q := w_icmp (show decode kb13 57 = .ok (.if_icmp .lt 10, 3) from by decide +kernel) (i_lt x y) rfl
theorem m13_60 : M13 60 [l0, l1, l2, l3, .val (.int v), l5] st H Q = M13 62 [l0, l1, l2, l3, .val (.int v), l5] (.int v :: st) H Q := w_x (show decode kb13 60 = .ok (.iload 4, 2) from by decide +kernel) rfl
theorem m13_62 : M13 62 ls st H Q = M13 64 ls (.int 63 :: st) H Q := w_con (show decode kb13 62 = .ok (.bipush 63, 2) from by decide +kernel) rfl (by decide)
theorem m13_64 : M13 64 ls (.int y :: .int x :: st) H Q = if y < x then M13 67 ls st H Q else M13 70 ls st H Q := w_icmpN (show decode kb13 64 = .ok (.if_icmp .le 6, 3) from by decide +kernel) (i_le x y) rfl
theorem m13_67 : M13 67 ls st H Q = M13 69 ls (.int (-3) :: st) H Q := w_con (show decode kb13 67 = .ok (.bipush (-3), 2) from by decide +kernel) rfl (by decide)
theorem m13_69 : M13 69 ls (.int z :: st) H Q = Q (some (.int z)) H := w_iret (show decode kb13 69 = .ok (.ireturn, 1) from by decide +kernel) rfl
theorem m13_70 : M13 70 [.val (.ref r), l1, l2, l3, l4, l5] st H Q = M13 71 [.val (.ref r), l1, l2, l3, l4, l5] (.ref r :: st) H Q := w_x (show decode kb13 70 = .ok (.aload_n 0, 1) from by decide +kernel) rfl
theorem m13_71 : M13 71 [l0, l1, l2, l3, .val (.int v), l5] st H Q = M13 73 [l0, l1, l2, l3, .val (.int v), l5] (.int v :: st) H Q := w_x (show decode kb13 71 = .ok (.iload 4, 2) from by decide +kernel) rfl
theorem cr13_91 : vR tables_1 dn y13 91 = some (true, y14, prog_1_method_3_code, 3, (some .boolean), 1, 0) := pR_of (cR_of (by decide +kernel) rc_14 dn_14 dn_13 (sig := ⟨[.int], some .boolean⟩) (by decide +kernel) (by decide +kernel) rfl rfl) (by decide +kernel) (by decide +kernel)
theorem m13_73 (a0 : Int32) : M13 73 ls [.int a0, .ref (b + 1)] (put (b + 1) pre s A post) Q = M14 0 [.val (.ref (b + 1)), .val (.int a0), .unset] [] (put (b + 1) pre s A post) (fun v H1 => M13 76 ls (v.toList ++ []) H1 Q) := w_virt (as := [.int a0]) (rest := []) (a := (b + 1)) (show decode kb13 73 = .ok (.invokevirtual 91, 3) from by decide +kernel) cr13_91 put_o rfl rfl (Nat.le_of_ble_eq_true rfl) (by show 2 ≤ 3; omega) rfl
theorem m13_76 : M13 76 ls (.int x :: st) H Q = if x = 0 then M13 82 ls st H Q else M13 79 ls st H Q := w_if (show decode kb13 76 = .ok (.ifCond .eq 6, 3) from by decide +kernel) (z_eq x) rfl
theorem m13_79 : M13 79 ls st H Q = M13 81 ls (.int (-3) :: st) H Q := w_con (show decode kb13 79 = .ok (.bipush (-3), 2) from by decide +kernel) rfl (by decide)
theorem m13_81 : M13 81 ls (.int z :: st) H Q = Q (some (.int z)) H := w_iret (show decode kb13 81 = .ok (.ireturn, 1) from by decide +kernel) rfl
theorem m13_82 : M13 82 [.val (.ref r), l1, l2, l3, l4, l5] st H Q = M13 83 [.val (.ref r), l1, l2, l3, l4, l5] (.ref r :: st) H Q := w_x (show decode kb13 82 = .ok (.aload_n 0, 1) from by decide +kernel) rfl
theorem m13_83 : M13 83 ls st H Q = M13 84 ls (.int 1 :: st) H Q := w_con (show decode kb13 83 = .ok (.iconst 1, 1) from by decide +kernel) rfl (by decide)
theorem pf13_78 : pfR tables_1 y13.cls y13.name 78 = some ("ResponseTimeGate", 22, .boolean) := by decide +kernel
theorem m13_84 : M13 84 ls (.int v :: .ref (b + 1) :: st) (put (b + 1) pre s A post) Q = M13 87 ls st (put (b + 1) pre (ou s 4 (nar .boolean v)) A post) Q := w_put (show decode kb13 84 = .ok (.putfield 78, 3) from by decide +kernel) pf13_78 put_o (Nat.succ_le_succ (Nat.zero_le _)) (by show 22 < 31; omega) rfl put_s4
theorem m13_87 : M13 87 [.val (.ref r), l1, l2, l3, l4, l5] st H Q = M13 88 [.val (.ref r), l1, l2, l3, l4, l5] (.ref r :: st) H Q := w_x (show decode kb13 87 = .ok (.aload_n 0, 1) from by decide +kernel) rfl
theorem m13_88 : M13 88 [l0, .val (.int v), l2, l3, l4, l5] st H Q = M13 89 [l0, .val (.int v), l2, l3, l4, l5] (.int v :: st) H Q := w_x (show decode kb13 88 = .ok (.iload_n 1, 1) from by decide +kernel) rfl
theorem pf13_95 : pfR tables_1 y13.cls y13.name 95 = some ("ResponseTimeGate", 27, .int) := by decide +kernel
theorem m13_89 : M13 89 ls (.int v :: .ref (b + 1) :: st) (put (b + 1) pre s A post) Q = M13 92 ls st (put (b + 1) pre (ou s 5 v) A post) Q := w_put (show decode kb13 89 = .ok (.putfield 95, 3) from by decide +kernel) pf13_95 put_o (Nat.succ_le_succ (Nat.zero_le _)) (by show 27 < 31; omega) rfl put_s5
theorem m13_92 : M13 92 [.val (.ref r), l1, l2, l3, l4, l5] st H Q = M13 93 [.val (.ref r), l1, l2, l3, l4, l5] (.ref r :: st) H Q := w_x (show decode kb13 92 = .ok (.aload_n 0, 1) from by decide +kernel) rfl
theorem m13_93 : M13 93 [l0, l1, .val (.int v), l3, l4, l5] st H Q = M13 94 [l0, l1, .val (.int v), l3, l4, l5] (.int v :: st) H Q := w_x (show decode kb13 93 = .ok (.iload_n 2, 1) from by decide +kernel) rfl
theorem pf13_98 : pfR tables_1 y13.cls y13.name 98 = some ("ResponseTimeGate", 28, .int) := by decide +kernel
theorem m13_94 : M13 94 ls (.int v :: .ref (b + 1) :: st) (put (b + 1) pre s A post) Q = M13 97 ls st (put (b + 1) pre (ou s 6 v) A post) Q := w_put (show decode kb13 94 = .ok (.putfield 98, 3) from by decide +kernel) pf13_98 put_o (Nat.succ_le_succ (Nat.zero_le _)) (by show 28 < 31; omega) rfl put_s6
theorem m13_97 : M13 97 [.val (.ref r), l1, l2, l3, l4, l5] st H Q = M13 98 [.val (.ref r), l1, l2, l3, l4, l5] (.ref r :: st) H Q := w_x (show decode kb13 97 = .ok (.aload_n 0, 1) from by decide +kernel) rfl
theorem m13_98 : M13 98 [l0, l1, l2, .val (.int v), l4, l5] st H Q = M13 99 [l0, l1, l2, .val (.int v), l4, l5] (.int v :: st) H Q := w_x (show decode kb13 98 = .ok (.iload_n 3, 1) from by decide +kernel) rfl
theorem pf13_101 : pfR tables_1 y13.cls y13.name 101 = some ("ResponseTimeGate", 29, .int) := by decide +kernel
theorem m13_99 : M13 99 ls (.int v :: .ref (b + 1) :: st) (put (b + 1) pre s A post) Q = M13 102 ls st (put (b + 1) pre (ou s 7 v) A post) Q := w_put (show decode kb13 99 = .ok (.putfield 101, 3) from by decide +kernel) pf13_101 put_o (Nat.succ_le_succ (Nat.zero_le _)) (by show 29 < 31; omega) rfl put_s7
theorem m13_102 : M13 102 [.val (.ref r), l1, l2, l3, l4, l5] st H Q = M13 103 [.val (.ref r), l1, l2, l3, l4, l5] (.ref r :: st) H Q := w_x (show decode kb13 102 = .ok (.aload_n 0, 1) from by decide +kernel) rfl
theorem m13_103 : M13 103 [l0, l1, l2, l3, .val (.int v), l5] st H Q = M13 105 [l0, l1, l2, l3, .val (.int v), l5] (.int v :: st) H Q := w_x (show decode kb13 103 = .ok (.iload 4, 2) from by decide +kernel) rfl
theorem pf13_104 : pfR tables_1 y13.cls y13.name 104 = some ("ResponseTimeGate", 30, .int) := by decide +kernel
theorem m13_105 : M13 105 ls (.int v :: .ref (b + 1) :: st) (put (b + 1) pre s A post) Q = M13 108 ls st (put (b + 1) pre (ou s 8 v) A post) Q := w_put (show decode kb13 105 = .ok (.putfield 104, 3) from by decide +kernel) pf13_104 put_o (Nat.succ_le_succ (Nat.zero_le _)) (by show 30 < 31; omega) rfl put_s8
theorem m13_108 : M13 108 ls st H Q = M13 109 ls (.int 0 :: st) H Q := w_con (show decode kb13 108 = .ok (.iconst 0, 1) from by decide +kernel) rfl (by decide)
theorem m13_109u : M13 109 [l0, l1, l2, l3, l4, .unset] ((.int v) :: st) H Q = M13 111 [l0, l1, l2, l3, l4, .val (.int v)] st H Q := w_st (i := 5) (p := isI) (show decode kb13 109 = .ok (.istore 5, 2) from by decide +kernel) rfl rfl rfl rfl rfl rfl
theorem m13_111 : M13 111 [l0, l1, l2, l3, l4, .val (.int v)] st H Q = M13 113 [l0, l1, l2, l3, l4, .val (.int v)] (.int v :: st) H Q := w_x (show decode kb13 111 = .ok (.iload 5, 2) from by decide +kernel) rfl
theorem m13_113 : M13 113 ls st H Q = M13 114 ls (.int 4 :: st) H Q := w_con (show decode kb13 113 = .ok (.iconst 4, 1) from by decide +kernel) rfl (by decide)
theorem m13_114 : M13 114 ls (.int y :: .int x :: st) H Q = if x < y then M13 117 ls st H Q else M13 139 ls st H Q := w_icmpN (show decode kb13 114 = .ok (.if_icmp .ge 25, 3) from by decide +kernel) (i_ge x y) rfl
theorem m13_117 : M13 117 [.val (.ref r), l1, l2, l3, l4, l5] st H Q = M13 118 [.val (.ref r), l1, l2, l3, l4, l5] (.ref r :: st) H Q := w_x (show decode kb13 117 = .ok (.aload_n 0, 1) from by decide +kernel) rfl
theorem m13_118 : M13 118 ls (.ref (b + 1) :: st) (put (b + 1) pre s A post) Q = M13 121 ls (.ref ((b + 1) + 10) :: st) (put (b + 1) pre s A post) Q := w_get (show decode kb13 118 = .ok (.getfield 37, 3) from by decide +kernel) gf_37 put_o rfl
theorem m13_121 : M13 121 [l0, l1, l2, l3, l4, .val (.int v)] st H Q = M13 123 [l0, l1, l2, l3, l4, .val (.int v)] (.int v :: st) H Q := w_x (show decode kb13 121 = .ok (.iload 5, 2) from by decide +kernel) rfl
theorem m13_123 : M13 123 ls st H Q = M13 124 ls (.int 0 :: st) H Q := w_con (show decode kb13 123 = .ok (.iconst 0, 1) from by decide +kernel) rfl (by decide)
theorem m13_124  : M13 124 ls (.int v :: .int j :: .ref ((b + 1) + 10) :: st) (put (b + 1) pre s A post) Q = (inB j (A 9) ∧ M13 125 ls st (put (b + 1) pre s (ou A 9 (setA (A 9) j v)) post) Q) := w_ist (show decode kb13 124 = .ok (.iastore, 1) from by decide +kernel) rfl put_a9 (by omega) rfl put_w9
theorem m13_125 : M13 125 [.val (.ref r), l1, l2, l3, l4, l5] st H Q = M13 126 [.val (.ref r), l1, l2, l3, l4, l5] (.ref r :: st) H Q := w_x (show decode kb13 125 = .ok (.aload_n 0, 1) from by decide +kernel) rfl
theorem m13_126 : M13 126 ls (.ref (b + 1) :: st) (put (b + 1) pre s A post) Q = M13 129 ls (.ref ((b + 1) + 11) :: st) (put (b + 1) pre s A post) Q := w_get (show decode kb13 126 = .ok (.getfield 40, 3) from by decide +kernel) gf_40 put_o rfl
theorem m13_129 : M13 129 [l0, l1, l2, l3, l4, .val (.int v)] st H Q = M13 131 [l0, l1, l2, l3, l4, .val (.int v)] (.int v :: st) H Q := w_x (show decode kb13 129 = .ok (.iload 5, 2) from by decide +kernel) rfl
theorem m13_131 : M13 131 ls st H Q = M13 132 ls (.int 0 :: st) H Q := w_con (show decode kb13 131 = .ok (.iconst 0, 1) from by decide +kernel) rfl (by decide)
theorem m13_132  : M13 132 ls (.int v :: .int j :: .ref ((b + 1) + 11) :: st) (put (b + 1) pre s A post) Q = (inB j (A 10) ∧ M13 133 ls st (put (b + 1) pre s (ou A 10 (setA (A 10) j v)) post) Q) := w_ist (show decode kb13 132 = .ok (.iastore, 1) from by decide +kernel) rfl put_a10 (by omega) rfl put_w10
theorem m13_133 : M13 133 [l0, l1, l2, l3, l4, .val (.int v)] st H Q = M13 136 [l0, l1, l2, l3, l4, .val (.int (v + 1))] st H Q := w_iinc (show decode kb13 133 = .ok (.iinc 5 1, 3) from by decide +kernel) rfl (by decide) rfl
theorem m13_136 : M13 136 ls st H Q = M13 111 ls st H Q := w_x (show decode kb13 136 = .ok (.goto (-25), 3) from by decide +kernel) rfl
theorem m13_139 : M13 139 ls st H Q = M13 140 ls (.int 0 :: st) H Q := w_con (show decode kb13 139 = .ok (.iconst 0, 1) from by decide +kernel) rfl (by decide)
theorem m13_140 : M13 140 ls (.int z :: st) H Q = Q (some (.int z)) H := w_iret (show decode kb13 140 = .ok (.ireturn, 1) from by decide +kernel) rfl
theorem m14_0 : M14 0 ls st H Q = M14 1 ls (.int 0 :: st) H Q := w_con (show decode kb14 0 = .ok (.iconst 0, 1) from by decide +kernel) rfl (by decide)
theorem m14_1u : M14 1 [l0, l1, .unset] ((.int v) :: st) H Q = M14 2 [l0, l1, .val (.int v)] st H Q := w_st (i := 2) (p := isI) (show decode kb14 1 = .ok (.istore_n 2, 1) from by decide +kernel) rfl rfl rfl rfl rfl rfl
theorem m14_2 : M14 2 [l0, l1, .val (.int v)] st H Q = M14 3 [l0, l1, .val (.int v)] (.int v :: st) H Q := w_x (show decode kb14 2 = .ok (.iload_n 2, 1) from by decide +kernel) rfl
theorem m14_3 : M14 3 [.val (.ref r), l1, l2] st H Q = M14 4 [.val (.ref r), l1, l2] (.ref r :: st) H Q := w_x (show decode kb14 3 = .ok (.aload_n 0, 1) from by decide +kernel) rfl
theorem m14_4 : M14 4 ls (.ref (b + 1) :: st) (put (b + 1) pre s A post) Q = M14 7 ls (.int (s 1) :: st) (put (b + 1) pre s A post) Q := w_get (show decode kb14 4 = .ok (.getfield 75, 3) from by decide +kernel) gf_75 put_o rfl
theorem m14_7 : M14 7 ls (.int y :: .int x :: st) H Q = if x < y then M14 10 ls st H Q else M14 28 ls st H Q := w_icmpN (show decode kb14 7 = .ok (.if_icmp .ge 21, 3) from by decide +kernel) (i_ge x y) rfl
theorem m14_10 : M14 10 [.val (.ref r), l1, l2] st H Q = M14 11 [.val (.ref r), l1, l2] (.ref r :: st) H Q := w_x (show decode kb14 10 = .ok (.aload_n 0, 1) from by decide +kernel) rfl
theorem m14_11 : M14 11 ls (.ref (b + 1) :: st) (put (b + 1) pre s A post) Q = M14 14 ls (.ref ((b + 1) + 4) :: st) (put (b + 1) pre s A post) Q := w_get (show decode kb14 11 = .ok (.getfield 19, 3) from by decide +kernel) gf_19 put_o rfl
theorem m14_14 : M14 14 [l0, l1, .val (.int v)] st H Q = M14 15 [l0, l1, .val (.int v)] (.int v :: st) H Q := w_x (show decode kb14 14 = .ok (.iload_n 2, 1) from by decide +kernel) rfl
theorem m14_15  : M14 15 ls (.int j :: .ref ((b + 1) + 4) :: st) (put (b + 1) pre s A post) Q = (inB j (A 3) ∧ M14 16 ls (.int (getA (A 3) j) :: st) (put (b + 1) pre s A post) Q) := w_ild (show decode kb14 15 = .ok (.iaload, 1) from by decide +kernel) rfl put_a3
theorem m14_16 : M14 16 [l0, .val (.int v), l2] st H Q = M14 17 [l0, .val (.int v), l2] (.int v :: st) H Q := w_x (show decode kb14 16 = .ok (.iload_n 1, 1) from by decide +kernel) rfl
theorem m14_17 : M14 17 ls (.int y :: .int x :: st) H Q = if x = y then M14 20 ls st H Q else M14 22 ls st H Q := w_icmpN (show decode kb14 17 = .ok (.if_icmp .ne 5, 3) from by decide +kernel) (i_ne x y) rfl
theorem m14_20 : M14 20 ls st H Q = M14 21 ls (.int 1 :: st) H Q := w_con (show decode kb14 20 = .ok (.iconst 1, 1) from by decide +kernel) rfl (by decide)
theorem m14_21 : M14 21 ls (.int z :: st) H Q = Q (some (.int (nar .boolean z))) H := w_iretN (show decode kb14 21 = .ok (.ireturn, 1) from by decide +kernel) rfl (by simp)
theorem m14_22 : M14 22 [l0, l1, .val (.int v)] st H Q = M14 25 [l0, l1, .val (.int (v + 1))] st H Q := w_iinc (show decode kb14 22 = .ok (.iinc 2 1, 3) from by decide +kernel) rfl (by decide) rfl
theorem m14_25 : M14 25 ls st H Q = M14 2 ls st H Q := w_x (show decode kb14 25 = .ok (.goto (-23), 3) from by decide +kernel) rfl
theorem m14_28 : M14 28 ls st H Q = M14 29 ls (.int 0 :: st) H Q := w_con (show decode kb14 28 = .ok (.iconst 0, 1) from by decide +kernel) rfl (by decide)
theorem m14_29 : M14 29 ls (.int z :: st) H Q = Q (some (.int (nar .boolean z))) H := w_iretN (show decode kb14 29 = .ok (.ireturn, 1) from by decide +kernel) rfl (by simp)
theorem m15_0 : M15 0 ls st H Q = M15 1 ls (.int 0 :: st) H Q := w_con (show decode kb15 0 = .ok (.iconst 0, 1) from by decide +kernel) rfl (by decide)
theorem m15_1u : M15 1 [l0, l1, l2, .unset, l4, l5] ((.int v) :: st) H Q = M15 2 [l0, l1, l2, .val (.int v), l4, l5] st H Q := w_st (i := 3) (p := isI) (show decode kb15 1 = .ok (.istore_n 3, 1) from by decide +kernel) rfl rfl rfl rfl rfl rfl
theorem m15_2 : M15 2 [l0, l1, l2, .val (.int v), l4, l5] st H Q = M15 3 [l0, l1, l2, .val (.int v), l4, l5] (.int v :: st) H Q := w_x (show decode kb15 2 = .ok (.iload_n 3, 1) from by decide +kernel) rfl
theorem m15_3 : M15 3 ls st H Q = M15 4 ls (.int 4 :: st) H Q := w_con (show decode kb15 3 = .ok (.iconst 4, 1) from by decide +kernel) rfl (by decide)
theorem m15_4 : M15 4 ls (.int y :: .int x :: st) H Q = if x < y then M15 7 ls st H Q else M15 56 ls st H Q := w_icmpN (show decode kb15 4 = .ok (.if_icmp .ge 52, 3) from by decide +kernel) (i_ge x y) rfl
theorem m15_7 : M15 7 [.val (.ref r), l1, l2, l3, l4, l5] st H Q = M15 8 [.val (.ref r), l1, l2, l3, l4, l5] (.ref r :: st) H Q := w_x (show decode kb15 7 = .ok (.aload_n 0, 1) from by decide +kernel) rfl
theorem m15_8 : M15 8 ls (.ref (b + 1) :: st) (put (b + 1) pre s A post) Q = M15 11 ls (.ref ((b + 1) + 11) :: st) (put (b + 1) pre s A post) Q := w_get (show decode kb15 8 = .ok (.getfield 40, 3) from by decide +kernel) gf_40 put_o rfl
theorem m15_11 : M15 11 [l0, l1, l2, .val (.int v), l4, l5] st H Q = M15 12 [l0, l1, l2, .val (.int v), l4, l5] (.int v :: st) H Q := w_x (show decode kb15 11 = .ok (.iload_n 3, 1) from by decide +kernel) rfl
theorem m15_12  : M15 12 ls (.int j :: .ref ((b + 1) + 11) :: st) (put (b + 1) pre s A post) Q = (inB j (A 10) ∧ M15 13 ls (.int (getA (A 10) j) :: st) (put (b + 1) pre s A post) Q) := w_ild (show decode kb15 12 = .ok (.iaload, 1) from by decide +kernel) rfl put_a10
theorem m15_13u : M15 13 [l0, l1, l2, l3, .unset, l5] ((.int v) :: st) H Q = M15 15 [l0, l1, l2, l3, .val (.int v), l5] st H Q := w_st (i := 4) (p := isI) (show decode kb15 13 = .ok (.istore 4, 2) from by decide +kernel) rfl rfl rfl rfl rfl rfl
theorem m15_13i : M15 13 [l0, l1, l2, l3, .val (.int z), l5] ((.int v) :: st) H Q = M15 15 [l0, l1, l2, l3, .val (.int v), l5] st H Q := w_st (i := 4) (p := isI) (show decode kb15 13 = .ok (.istore 4, 2) from by decide +kernel) rfl rfl rfl rfl rfl rfl
theorem m15_13r : M15 13 [l0, l1, l2, l3, .val (.ref q), l5] ((.int v) :: st) H Q = M15 15 [l0, l1, l2, l3, .val (.int v), l5] st H Q := w_st (i := 4) (p := isI) (show decode kb15 13 = .ok (.istore 4, 2) from by decide +kernel) rfl rfl rfl rfl rfl rfl
theorem m15_13g (h : okS l4) : M15 13 [l0, l1, l2, l3, l4, l5] ((.int v) :: st) H Q = M15 15 [l0, l1, l2, l3, .val (.int v), l5] st H Q := by rcases h with rfl | ⟨z, rfl⟩ <;> first | exact m15_13u | exact m15_13i
theorem m15_15 : M15 15 [l0, l1, l2, l3, .val (.int v), l5] st H Q = M15 17 [l0, l1, l2, l3, .val (.int v), l5] (.int v :: st) H Q := w_x (show decode kb15 15 = .ok (.iload 4, 2) from by decide +kernel) rfl
theorem m15_17 : M15 17 ls (.int x :: st) H Q = if 0 < x then M15 23 ls st H Q else M15 20 ls st H Q := w_if (show decode kb15 17 = .ok (.ifCond .gt 6, 3) from by decide +kernel) (z_gt x) rfl
theorem m15_20 : M15 20 ls st H Q = M15 50 ls st H Q := w_x (show decode kb15 20 = .ok (.goto 30, 3) from by decide +kernel) rfl
theorem m15_23 : M15 23 [.val (.ref r), l1, l2, l3, l4, l5] st H Q = M15 24 [.val (.ref r), l1, l2, l3, l4, l5] (.ref r :: st) H Q := w_x (show decode kb15 23 = .ok (.aload_n 0, 1) from by decide +kernel) rfl
theorem m15_24 : M15 24 ls (.ref (b + 1) :: st) (put (b + 1) pre s A post) Q = M15 27 ls (.ref ((b + 1) + 10) :: st) (put (b + 1) pre s A post) Q := w_get (show decode kb15 24 = .ok (.getfield 37, 3) from by decide +kernel) gf_37 put_o rfl
theorem m15_27 : M15 27 [l0, l1, l2, .val (.int v), l4, l5] st H Q = M15 28 [l0, l1, l2, .val (.int v), l4, l5] (.int v :: st) H Q := w_x (show decode kb15 27 = .ok (.iload_n 3, 1) from by decide +kernel) rfl
theorem m15_28  : M15 28 ls (.int j :: .ref ((b + 1) + 10) :: st) (put (b + 1) pre s A post) Q = (inB j (A 9) ∧ M15 29 ls (.int (getA (A 9) j) :: st) (put (b + 1) pre s A post) Q) := w_ild (show decode kb15 28 = .ok (.iaload, 1) from by decide +kernel) rfl put_a9
theorem m15_29u : M15 29 [l0, l1, l2, l3, l4, .unset] ((.int v) :: st) H Q = M15 31 [l0, l1, l2, l3, l4, .val (.int v)] st H Q := w_st (i := 5) (p := isI) (show decode kb15 29 = .ok (.istore 5, 2) from by decide +kernel) rfl rfl rfl rfl rfl rfl
theorem m15_29i : M15 29 [l0, l1, l2, l3, l4, .val (.int z)] ((.int v) :: st) H Q = M15 31 [l0, l1, l2, l3, l4, .val (.int v)] st H Q := w_st (i := 5) (p := isI) (show decode kb15 29 = .ok (.istore 5, 2) from by decide +kernel) rfl rfl rfl rfl rfl rfl
theorem m15_29r : M15 29 [l0, l1, l2, l3, l4, .val (.ref q)] ((.int v) :: st) H Q = M15 31 [l0, l1, l2, l3, l4, .val (.int v)] st H Q := w_st (i := 5) (p := isI) (show decode kb15 29 = .ok (.istore 5, 2) from by decide +kernel) rfl rfl rfl rfl rfl rfl
theorem m15_29g (h : okS l5) : M15 29 [l0, l1, l2, l3, l4, l5] ((.int v) :: st) H Q = M15 31 [l0, l1, l2, l3, l4, .val (.int v)] st H Q := by rcases h with rfl | ⟨z, rfl⟩ <;> first | exact m15_29u | exact m15_29i
theorem m15_31 : M15 31 [l0, .val (.int v), l2, l3, l4, l5] st H Q = M15 32 [l0, .val (.int v), l2, l3, l4, l5] (.int v :: st) H Q := w_x (show decode kb15 31 = .ok (.iload_n 1, 1) from by decide +kernel) rfl
theorem m15_32 : M15 32 [l0, l1, l2, l3, l4, .val (.int v)] st H Q = M15 34 [l0, l1, l2, l3, l4, .val (.int v)] (.int v :: st) H Q := w_x (show decode kb15 32 = .ok (.iload 5, 2) from by decide +kernel) rfl
theorem m15_34 : M15 34 [l0, l1, l2, l3, .val (.int v), l5] st H Q = M15 36 [l0, l1, l2, l3, .val (.int v), l5] (.int v :: st) H Q := w_x (show decode kb15 34 = .ok (.iload 4, 2) from by decide +kernel) rfl
theorem m15_36 : M15 36 ls (.int y :: .int x :: st) H Q = M15 37 ls (.int (x + y) :: st) H Q := w_x (show decode kb15 36 = .ok (.iadd, 1) from by decide +kernel) rfl
theorem m15_37 : M15 37 ls (.int y :: .int x :: st) H Q = if x < y then M15 40 ls st H Q else M15 50 ls st H Q := w_icmpN (show decode kb15 37 = .ok (.if_icmp .ge 13, 3) from by decide +kernel) (i_ge x y) rfl
theorem m15_40 : M15 40 [l0, l1, l2, l3, l4, .val (.int v)] st H Q = M15 42 [l0, l1, l2, l3, l4, .val (.int v)] (.int v :: st) H Q := w_x (show decode kb15 40 = .ok (.iload 5, 2) from by decide +kernel) rfl
theorem m15_42 : M15 42 [l0, .val (.int v), l2, l3, l4, l5] st H Q = M15 43 [l0, .val (.int v), l2, l3, l4, l5] (.int v :: st) H Q := w_x (show decode kb15 42 = .ok (.iload_n 1, 1) from by decide +kernel) rfl
theorem m15_43 : M15 43 [l0, l1, .val (.int v), l3, l4, l5] st H Q = M15 44 [l0, l1, .val (.int v), l3, l4, l5] (.int v :: st) H Q := w_x (show decode kb15 43 = .ok (.iload_n 2, 1) from by decide +kernel) rfl
theorem m15_44 : M15 44 ls (.int y :: .int x :: st) H Q = M15 45 ls (.int (x + y) :: st) H Q := w_x (show decode kb15 44 = .ok (.iadd, 1) from by decide +kernel) rfl
theorem m15_45 : M15 45 ls (.int y :: .int x :: st) H Q = if x < y then M15 48 ls st H Q else M15 50 ls st H Q := w_icmpN (show decode kb15 45 = .ok (.if_icmp .ge 5, 3) from by decide +kernel) (i_ge x y) rfl
theorem m15_48 : M15 48 ls st H Q = M15 49 ls (.int 1 :: st) H Q := w_con (show decode kb15 48 = .ok (.iconst 1, 1) from by decide +kernel) rfl (by decide)
theorem m15_49 : M15 49 ls (.int z :: st) H Q = Q (some (.int (nar .boolean z))) H := w_iretN (show decode kb15 49 = .ok (.ireturn, 1) from by decide +kernel) rfl (by simp)
theorem m15_50 : M15 50 [l0, l1, l2, .val (.int v), l4, l5] st H Q = M15 53 [l0, l1, l2, .val (.int (v + 1)), l4, l5] st H Q := w_iinc (show decode kb15 50 = .ok (.iinc 3 1, 3) from by decide +kernel) rfl (by decide) rfl
theorem m15_53 : M15 53 ls st H Q = M15 2 ls st H Q := w_x (show decode kb15 53 = .ok (.goto (-51), 3) from by decide +kernel) rfl
theorem m15_56 : M15 56 ls st H Q = M15 57 ls (.int 0 :: st) H Q := w_con (show decode kb15 56 = .ok (.iconst 0, 1) from by decide +kernel) rfl (by decide)
theorem m15_57 : M15 57 ls (.int z :: st) H Q = Q (some (.int (nar .boolean z))) H := w_iretN (show decode kb15 57 = .ok (.ireturn, 1) from by decide +kernel) rfl (by simp)
theorem m16_0 : M16 0 [l0, .val (.int v), l2, l3] st H Q = M16 1 [l0, .val (.int v), l2, l3] (.int v :: st) H Q := w_x (show decode kb16 0 = .ok (.iload_n 1, 1) from by decide +kernel) rfl
theorem m16_1 : M16 1 ls st H Q = M16 2 ls (.int 1 :: st) H Q := w_con (show decode kb16 1 = .ok (.iconst 1, 1) from by decide +kernel) rfl (by decide)
theorem m16_2 : M16 2 ls (.int y :: .int x :: st) H Q = if x < y then M16 10 ls st H Q else M16 5 ls st H Q := w_icmp (show decode kb16 2 = .ok (.if_icmp .lt 8, 3) from by decide +kernel) (i_lt x y) rfl
theorem m16_5 : M16 5 [l0, l1, .val (.int v), l3] st H Q = M16 6 [l0, l1, .val (.int v), l3] (.int v :: st) H Q := w_x (show decode kb16 5 = .ok (.iload_n 2, 1) from by decide +kernel) rfl
theorem m16_6 : M16 6 ls st H Q = M16 7 ls (.int 1 :: st) H Q := w_con (show decode kb16 6 = .ok (.iconst 1, 1) from by decide +kernel) rfl (by decide)
theorem m16_7 : M16 7 ls (.int y :: .int x :: st) H Q = if x < y then M16 10 ls st H Q else M16 14 ls st H Q := w_icmpN (show decode kb16 7 = .ok (.if_icmp .ge 7, 3) from by decide +kernel) (i_ge x y) rfl
theorem m16_10 : M16 10 ls st H Q = M16 13 ls (.int 841 :: st) H Q := w_con (show decode kb16 10 = .ok (.sipush 841, 3) from by decide +kernel) rfl (by decide)
theorem m16_13 : M16 13 ls (.int z :: st) H Q = Q (some (.int z)) H := w_iret (show decode kb16 13 = .ok (.ireturn, 1) from by decide +kernel) rfl
theorem m16_14 : M16 14 [.val (.ref r), l1, l2, l3] st H Q = M16 15 [.val (.ref r), l1, l2, l3] (.ref r :: st) H Q := w_x (show decode kb16 14 = .ok (.aload_n 0, 1) from by decide +kernel) rfl
theorem m16_15 : M16 15 [l0, .val (.int v), l2, l3] st H Q = M16 16 [l0, .val (.int v), l2, l3] (.int v :: st) H Q := w_x (show decode kb16 15 = .ok (.iload_n 1, 1) from by decide +kernel) rfl
theorem m16_16 : M16 16 [l0, l1, .val (.int v), l3] st H Q = M16 17 [l0, l1, .val (.int v), l3] (.int v :: st) H Q := w_x (show decode kb16 16 = .ok (.iload_n 2, 1) from by decide +kernel) rfl
theorem cr16_126 : vR tables_1 dn y16 126 = some (true, y17, prog_1_method_9_code, 7, (some .int), 2, 0) := pR_of (cR_of (by decide +kernel) rc_17 dn_17 dn_16 (sig := ⟨[.int, .int], some .int⟩) (by decide +kernel) (by decide +kernel) rfl rfl) (by decide +kernel) (by decide +kernel)
theorem m16_17 (a0 : Int32) (a1 : Int32) : M16 17 ls [.int a1, .int a0, .ref (b + 1)] (put (b + 1) pre s A post) Q = M17 0 [.val (.ref (b + 1)), .val (.int a0), .val (.int a1), .unset, .unset, .unset, .unset] [] (put (b + 1) pre s A post) (fun v H1 => M16 20 ls (v.toList ++ []) H1 Q) := w_virt (as := [.int a1, .int a0]) (rest := []) (a := (b + 1)) (show decode kb16 17 = .ok (.invokevirtual 126, 3) from by decide +kernel) cr16_126 put_o rfl rfl (Nat.le_of_ble_eq_true rfl) (by show 3 ≤ 7; omega) rfl
theorem m16_20u : M16 20 [l0, l1, l2, .unset] ((.int v) :: st) H Q = M16 21 [l0, l1, l2, .val (.int v)] st H Q := w_st (i := 3) (p := isI) (show decode kb16 20 = .ok (.istore_n 3, 1) from by decide +kernel) rfl rfl rfl rfl rfl rfl
theorem m16_21 : M16 21 [l0, l1, l2, .val (.int v)] st H Q = M16 22 [l0, l1, l2, .val (.int v)] (.int v :: st) H Q := w_x (show decode kb16 21 = .ok (.iload_n 3, 1) from by decide +kernel) rfl
theorem m16_22 : M16 22 ls st H Q = M16 23 ls (.int 1 :: st) H Q := w_con (show decode kb16 22 = .ok (.iconst 1, 1) from by decide +kernel) rfl (by decide)
theorem m16_23 : M16 23 ls (.int y :: .int x :: st) H Q = if x < y then M16 26 ls st H Q else M16 30 ls st H Q := w_icmpN (show decode kb16 23 = .ok (.if_icmp .ge 7, 3) from by decide +kernel) (i_ge x y) rfl
theorem m16_26 : M16 26 ls st H Q = M16 29 ls (.int 841 :: st) H Q := w_con (show decode kb16 26 = .ok (.sipush 841, 3) from by decide +kernel) rfl (by decide)
theorem m16_29 : M16 29 ls (.int z :: st) H Q = Q (some (.int z)) H := w_iret (show decode kb16 29 = .ok (.ireturn, 1) from by decide +kernel) rfl
theorem m16_30 : M16 30 [l0, .val (.int v), l2, l3] st H Q = M16 31 [l0, .val (.int v), l2, l3] (.int v :: st) H Q := w_x (show decode kb16 30 = .ok (.iload_n 1, 1) from by decide +kernel) rfl
theorem m16_31 : M16 31 [l0, l1, l2, .val (.int v)] st H Q = M16 32 [l0, l1, l2, .val (.int v)] (.int v :: st) H Q := w_x (show decode kb16 31 = .ok (.iload_n 3, 1) from by decide +kernel) rfl
theorem m16_32 : M16 32 ls (.int y :: .int x :: st) H Q = (y ≠ 0 ∧ M16 33 ls (.int (x / y) :: st) H Q) := w_div (f := fun x y => x / y) (show decode kb16 32 = .ok (.idiv, 1) from by decide +kernel) (fun _ => rfl) rfl rfl
theorem m16_33 : M16 33 [l0, l1, .val (.int v), l3] st H Q = M16 34 [l0, l1, .val (.int v), l3] (.int v :: st) H Q := w_x (show decode kb16 33 = .ok (.iload_n 2, 1) from by decide +kernel) rfl
theorem m16_34 : M16 34 ls (.int y :: .int x :: st) H Q = M16 35 ls (.int (x * y) :: st) H Q := w_x (show decode kb16 34 = .ok (.imul, 1) from by decide +kernel) rfl
theorem m16_35 : M16 35 ls (.int z :: st) H Q = Q (some (.int z)) H := w_iret (show decode kb16 35 = .ok (.ireturn, 1) from by decide +kernel) rfl
theorem m17_0 : M17 0 [l0, .val (.int v), l2, l3, l4, l5, l6] st H Q = M17 1 [l0, .val (.int v), l2, l3, l4, l5, l6] (.int v :: st) H Q := w_x (show decode kb17 0 = .ok (.iload_n 1, 1) from by decide +kernel) rfl
theorem m17_1u : M17 1 [l0, l1, l2, .unset, l4, l5, l6] ((.int v) :: st) H Q = M17 2 [l0, l1, l2, .val (.int v), l4, l5, l6] st H Q := w_st (i := 3) (p := isI) (show decode kb17 1 = .ok (.istore_n 3, 1) from by decide +kernel) rfl rfl rfl rfl rfl rfl
theorem m17_2 : M17 2 [l0, l1, .val (.int v), l3, l4, l5, l6] st H Q = M17 3 [l0, l1, .val (.int v), l3, l4, l5, l6] (.int v :: st) H Q := w_x (show decode kb17 2 = .ok (.iload_n 2, 1) from by decide +kernel) rfl
theorem m17_3u : M17 3 [l0, l1, l2, l3, .unset, l5, l6] ((.int v) :: st) H Q = M17 5 [l0, l1, l2, l3, .val (.int v), l5, l6] st H Q := w_st (i := 4) (p := isI) (show decode kb17 3 = .ok (.istore 4, 2) from by decide +kernel) rfl rfl rfl rfl rfl rfl
theorem m17_5 : M17 5 ls st H Q = M17 6 ls (.int 0 :: st) H Q := w_con (show decode kb17 5 = .ok (.iconst 0, 1) from by decide +kernel) rfl (by decide)
theorem m17_6u : M17 6 [l0, l1, l2, l3, l4, .unset, l6] ((.int v) :: st) H Q = M17 8 [l0, l1, l2, l3, l4, .val (.int v), l6] st H Q := w_st (i := 5) (p := isI) (show decode kb17 6 = .ok (.istore 5, 2) from by decide +kernel) rfl rfl rfl rfl rfl rfl
theorem m17_8 : M17 8 [l0, l1, l2, l3, l4, .val (.int v), l6] st H Q = M17 10 [l0, l1, l2, l3, l4, .val (.int v), l6] (.int v :: st) H Q := w_x (show decode kb17 8 = .ok (.iload 5, 2) from by decide +kernel) rfl
theorem m17_10 : M17 10 ls st H Q = M17 12 ls (.int 64 :: st) H Q := w_con (show decode kb17 10 = .ok (.bipush 64, 2) from by decide +kernel) rfl (by decide)
theorem m17_12 : M17 12 ls (.int y :: .int x :: st) H Q = if x < y then M17 15 ls st H Q else M17 42 ls st H Q := w_icmpN (show decode kb17 12 = .ok (.if_icmp .ge 30, 3) from by decide +kernel) (i_ge x y) rfl
theorem m17_15 : M17 15 [l0, l1, l2, l3, .val (.int v), l5, l6] st H Q = M17 17 [l0, l1, l2, l3, .val (.int v), l5, l6] (.int v :: st) H Q := w_x (show decode kb17 15 = .ok (.iload 4, 2) from by decide +kernel) rfl
theorem m17_17 : M17 17 ls (.int x :: st) H Q = if x = 0 then M17 20 ls st H Q else M17 23 ls st H Q := w_ifN (show decode kb17 17 = .ok (.ifCond .ne 6, 3) from by decide +kernel) (z_ne x) rfl
theorem m17_20 : M17 20 ls st H Q = M17 42 ls st H Q := w_x (show decode kb17 20 = .ok (.goto 22, 3) from by decide +kernel) rfl
theorem m17_23 : M17 23 [l0, l1, l2, .val (.int v), l4, l5, l6] st H Q = M17 24 [l0, l1, l2, .val (.int v), l4, l5, l6] (.int v :: st) H Q := w_x (show decode kb17 23 = .ok (.iload_n 3, 1) from by decide +kernel) rfl
theorem m17_24 : M17 24 [l0, l1, l2, l3, .val (.int v), l5, l6] st H Q = M17 26 [l0, l1, l2, l3, .val (.int v), l5, l6] (.int v :: st) H Q := w_x (show decode kb17 24 = .ok (.iload 4, 2) from by decide +kernel) rfl
theorem m17_26 : M17 26 ls (.int y :: .int x :: st) H Q = (y ≠ 0 ∧ M17 27 ls (.int (x % y) :: st) H Q) := w_div (f := fun x y => x % y) (show decode kb17 26 = .ok (.irem, 1) from by decide +kernel) (fun _ => rfl) rfl rfl
theorem m17_27u : M17 27 [l0, l1, l2, l3, l4, l5, .unset] ((.int v) :: st) H Q = M17 29 [l0, l1, l2, l3, l4, l5, .val (.int v)] st H Q := w_st (i := 6) (p := isI) (show decode kb17 27 = .ok (.istore 6, 2) from by decide +kernel) rfl rfl rfl rfl rfl rfl
theorem m17_27i : M17 27 [l0, l1, l2, l3, l4, l5, .val (.int z)] ((.int v) :: st) H Q = M17 29 [l0, l1, l2, l3, l4, l5, .val (.int v)] st H Q := w_st (i := 6) (p := isI) (show decode kb17 27 = .ok (.istore 6, 2) from by decide +kernel) rfl rfl rfl rfl rfl rfl
theorem m17_27r : M17 27 [l0, l1, l2, l3, l4, l5, .val (.ref q)] ((.int v) :: st) H Q = M17 29 [l0, l1, l2, l3, l4, l5, .val (.int v)] st H Q := w_st (i := 6) (p := isI) (show decode kb17 27 = .ok (.istore 6, 2) from by decide +kernel) rfl rfl rfl rfl rfl rfl
theorem m17_27g (h : okS l6) : M17 27 [l0, l1, l2, l3, l4, l5, l6] ((.int v) :: st) H Q = M17 29 [l0, l1, l2, l3, l4, l5, .val (.int v)] st H Q := by rcases h with rfl | ⟨z, rfl⟩ <;> first | exact m17_27u | exact m17_27i
theorem m17_29 : M17 29 [l0, l1, l2, l3, .val (.int v), l5, l6] st H Q = M17 31 [l0, l1, l2, l3, .val (.int v), l5, l6] (.int v :: st) H Q := w_x (show decode kb17 29 = .ok (.iload 4, 2) from by decide +kernel) rfl
theorem m17_31i : M17 31 [l0, l1, l2, .val (.int z), l4, l5, l6] ((.int v) :: st) H Q = M17 32 [l0, l1, l2, .val (.int v), l4, l5, l6] st H Q := w_st (i := 3) (p := isI) (show decode kb17 31 = .ok (.istore_n 3, 1) from by decide +kernel) rfl rfl rfl rfl rfl rfl
theorem m17_32 : M17 32 [l0, l1, l2, l3, l4, l5, .val (.int v)] st H Q = M17 34 [l0, l1, l2, l3, l4, l5, .val (.int v)] (.int v :: st) H Q := w_x (show decode kb17 32 = .ok (.iload 6, 2) from by decide +kernel) rfl
theorem m17_34i : M17 34 [l0, l1, l2, l3, .val (.int z), l5, l6] ((.int v) :: st) H Q = M17 36 [l0, l1, l2, l3, .val (.int v), l5, l6] st H Q := w_st (i := 4) (p := isI) (show decode kb17 34 = .ok (.istore 4, 2) from by decide +kernel) rfl rfl rfl rfl rfl rfl
theorem m17_36 : M17 36 [l0, l1, l2, l3, l4, .val (.int v), l6] st H Q = M17 39 [l0, l1, l2, l3, l4, .val (.int (v + 1)), l6] st H Q := w_iinc (show decode kb17 36 = .ok (.iinc 5 1, 3) from by decide +kernel) rfl (by decide) rfl
theorem m17_39 : M17 39 ls st H Q = M17 8 ls st H Q := w_x (show decode kb17 39 = .ok (.goto (-31), 3) from by decide +kernel) rfl
theorem m17_42 : M17 42 [l0, l1, l2, .val (.int v), l4, l5, l6] st H Q = M17 43 [l0, l1, l2, .val (.int v), l4, l5, l6] (.int v :: st) H Q := w_x (show decode kb17 42 = .ok (.iload_n 3, 1) from by decide +kernel) rfl
theorem m17_43 : M17 43 ls (.int z :: st) H Q = Q (some (.int z)) H := w_iret (show decode kb17 43 = .ok (.ireturn, 1) from by decide +kernel) rfl
theorem m18_0 : M18 0 [.val (.ref r), l1, l2] st H Q = M18 1 [.val (.ref r), l1, l2] (.ref r :: st) H Q := w_x (show decode kb18 0 = .ok (.aload_n 0, 1) from by decide +kernel) rfl
theorem m18_1 : M18 1 ls (.ref (b + 1) :: st) (put (b + 1) pre s A post) Q = M18 4 ls (.ref ((b + 1) + 1) :: st) (put (b + 1) pre s A post) Q := w_get (show decode kb18 1 = .ok (.getfield 7, 3) from by decide +kernel) gf_7 put_o rfl
theorem m18_4 : M18 4 [l0, .val (.int v), l2] st H Q = M18 5 [l0, .val (.int v), l2] (.int v :: st) H Q := w_x (show decode kb18 4 = .ok (.iload_n 1, 1) from by decide +kernel) rfl
theorem m18_5 : M18 5 [.val (.ref r), l1, l2] st H Q = M18 6 [.val (.ref r), l1, l2] (.ref r :: st) H Q := w_x (show decode kb18 5 = .ok (.aload_n 0, 1) from by decide +kernel) rfl
theorem m18_6 : M18 6 ls (.ref (b + 1) :: st) (put (b + 1) pre s A post) Q = M18 9 ls (.int (s 5) :: st) (put (b + 1) pre s A post) Q := w_get (show decode kb18 6 = .ok (.getfield 95, 3) from by decide +kernel) gf_95 put_o rfl
theorem m18_9  : M18 9 ls (.int v :: .int j :: .ref ((b + 1) + 1) :: st) (put (b + 1) pre s A post) Q = (inB j (A 0) ∧ M18 10 ls st (put (b + 1) pre s (ou A 0 (setA (A 0) j v)) post) Q) := w_ist (show decode kb18 9 = .ok (.iastore, 1) from by decide +kernel) rfl put_a0 (by omega) rfl put_w0
theorem m18_10 : M18 10 [.val (.ref r), l1, l2] st H Q = M18 11 [.val (.ref r), l1, l2] (.ref r :: st) H Q := w_x (show decode kb18 10 = .ok (.aload_n 0, 1) from by decide +kernel) rfl
theorem m18_11 : M18 11 ls (.ref (b + 1) :: st) (put (b + 1) pre s A post) Q = M18 14 ls (.ref ((b + 1) + 2) :: st) (put (b + 1) pre s A post) Q := w_get (show decode kb18 11 = .ok (.getfield 13, 3) from by decide +kernel) gf_13 put_o rfl
theorem m18_14 : M18 14 [l0, .val (.int v), l2] st H Q = M18 15 [l0, .val (.int v), l2] (.int v :: st) H Q := w_x (show decode kb18 14 = .ok (.iload_n 1, 1) from by decide +kernel) rfl
theorem m18_15 : M18 15 [.val (.ref r), l1, l2] st H Q = M18 16 [.val (.ref r), l1, l2] (.ref r :: st) H Q := w_x (show decode kb18 15 = .ok (.aload_n 0, 1) from by decide +kernel) rfl
theorem m18_16 : M18 16 ls (.ref (b + 1) :: st) (put (b + 1) pre s A post) Q = M18 19 ls (.int (s 6) :: st) (put (b + 1) pre s A post) Q := w_get (show decode kb18 16 = .ok (.getfield 98, 3) from by decide +kernel) gf_98 put_o rfl
theorem m18_19  : M18 19 ls (.int v :: .int j :: .ref ((b + 1) + 2) :: st) (put (b + 1) pre s A post) Q = (inB j (A 1) ∧ M18 20 ls st (put (b + 1) pre s (ou A 1 (setA (A 1) j v)) post) Q) := w_ist (show decode kb18 19 = .ok (.iastore, 1) from by decide +kernel) rfl put_a1 (by omega) rfl put_w1
theorem m18_20 : M18 20 [.val (.ref r), l1, l2] st H Q = M18 21 [.val (.ref r), l1, l2] (.ref r :: st) H Q := w_x (show decode kb18 20 = .ok (.aload_n 0, 1) from by decide +kernel) rfl
theorem m18_21 : M18 21 ls (.ref (b + 1) :: st) (put (b + 1) pre s A post) Q = M18 24 ls (.ref ((b + 1) + 3) :: st) (put (b + 1) pre s A post) Q := w_get (show decode kb18 21 = .ok (.getfield 16, 3) from by decide +kernel) gf_16 put_o rfl
theorem m18_24 : M18 24 [l0, .val (.int v), l2] st H Q = M18 25 [l0, .val (.int v), l2] (.int v :: st) H Q := w_x (show decode kb18 24 = .ok (.iload_n 1, 1) from by decide +kernel) rfl
theorem m18_25 : M18 25 [.val (.ref r), l1, l2] st H Q = M18 26 [.val (.ref r), l1, l2] (.ref r :: st) H Q := w_x (show decode kb18 25 = .ok (.aload_n 0, 1) from by decide +kernel) rfl
theorem m18_26 : M18 26 ls (.ref (b + 1) :: st) (put (b + 1) pre s A post) Q = M18 29 ls (.int (s 7) :: st) (put (b + 1) pre s A post) Q := w_get (show decode kb18 26 = .ok (.getfield 101, 3) from by decide +kernel) gf_101 put_o rfl
theorem m18_29  : M18 29 ls (.int v :: .int j :: .ref ((b + 1) + 3) :: st) (put (b + 1) pre s A post) Q = (inB j (A 2) ∧ M18 30 ls st (put (b + 1) pre s (ou A 2 (setA (A 2) j v)) post) Q) := w_ist (show decode kb18 29 = .ok (.iastore, 1) from by decide +kernel) rfl put_a2 (by omega) rfl put_w2
theorem m18_30 : M18 30 [.val (.ref r), l1, l2] st H Q = M18 31 [.val (.ref r), l1, l2] (.ref r :: st) H Q := w_x (show decode kb18 30 = .ok (.aload_n 0, 1) from by decide +kernel) rfl
theorem m18_31 : M18 31 ls (.ref (b + 1) :: st) (put (b + 1) pre s A post) Q = M18 34 ls (.ref ((b + 1) + 4) :: st) (put (b + 1) pre s A post) Q := w_get (show decode kb18 31 = .ok (.getfield 19, 3) from by decide +kernel) gf_19 put_o rfl
theorem m18_34 : M18 34 [l0, .val (.int v), l2] st H Q = M18 35 [l0, .val (.int v), l2] (.int v :: st) H Q := w_x (show decode kb18 34 = .ok (.iload_n 1, 1) from by decide +kernel) rfl
theorem m18_35 : M18 35 [.val (.ref r), l1, l2] st H Q = M18 36 [.val (.ref r), l1, l2] (.ref r :: st) H Q := w_x (show decode kb18 35 = .ok (.aload_n 0, 1) from by decide +kernel) rfl
theorem m18_36 : M18 36 ls (.ref (b + 1) :: st) (put (b + 1) pre s A post) Q = M18 39 ls (.int (s 8) :: st) (put (b + 1) pre s A post) Q := w_get (show decode kb18 36 = .ok (.getfield 104, 3) from by decide +kernel) gf_104 put_o rfl
theorem m18_39  : M18 39 ls (.int v :: .int j :: .ref ((b + 1) + 4) :: st) (put (b + 1) pre s A post) Q = (inB j (A 3) ∧ M18 40 ls st (put (b + 1) pre s (ou A 3 (setA (A 3) j v)) post) Q) := w_ist (show decode kb18 39 = .ok (.iastore, 1) from by decide +kernel) rfl put_a3 (by omega) rfl put_w3
theorem m18_40 : M18 40 ls st H Q = M18 41 ls (.int 0 :: st) H Q := w_con (show decode kb18 40 = .ok (.iconst 0, 1) from by decide +kernel) rfl (by decide)
theorem m18_41u : M18 41 [l0, l1, .unset] ((.int v) :: st) H Q = M18 42 [l0, l1, .val (.int v)] st H Q := w_st (i := 2) (p := isI) (show decode kb18 41 = .ok (.istore_n 2, 1) from by decide +kernel) rfl rfl rfl rfl rfl rfl
theorem m18_42 : M18 42 [l0, l1, .val (.int v)] st H Q = M18 43 [l0, l1, .val (.int v)] (.int v :: st) H Q := w_x (show decode kb18 42 = .ok (.iload_n 2, 1) from by decide +kernel) rfl
theorem m18_43 : M18 43 ls st H Q = M18 44 ls (.int 4 :: st) H Q := w_con (show decode kb18 43 = .ok (.iconst 4, 1) from by decide +kernel) rfl (by decide)
theorem m18_44 : M18 44 ls (.int y :: .int x :: st) H Q = if x < y then M18 47 ls st H Q else M18 85 ls st H Q := w_icmpN (show decode kb18 44 = .ok (.if_icmp .ge 41, 3) from by decide +kernel) (i_ge x y) rfl
theorem m18_47 : M18 47 [.val (.ref r), l1, l2] st H Q = M18 48 [.val (.ref r), l1, l2] (.ref r :: st) H Q := w_x (show decode kb18 47 = .ok (.aload_n 0, 1) from by decide +kernel) rfl
theorem m18_48 : M18 48 ls (.ref (b + 1) :: st) (put (b + 1) pre s A post) Q = M18 51 ls (.ref ((b + 1) + 5) :: st) (put (b + 1) pre s A post) Q := w_get (show decode kb18 48 = .ok (.getfield 22, 3) from by decide +kernel) gf_22 put_o rfl
theorem m18_51 : M18 51 [l0, .val (.int v), l2] st H Q = M18 52 [l0, .val (.int v), l2] (.int v :: st) H Q := w_x (show decode kb18 51 = .ok (.iload_n 1, 1) from by decide +kernel) rfl
theorem m18_52 : M18 52 ls st H Q = M18 53 ls (.int 4 :: st) H Q := w_con (show decode kb18 52 = .ok (.iconst 4, 1) from by decide +kernel) rfl (by decide)
theorem m18_53 : M18 53 ls (.int y :: .int x :: st) H Q = M18 54 ls (.int (x * y) :: st) H Q := w_x (show decode kb18 53 = .ok (.imul, 1) from by decide +kernel) rfl
theorem m18_54 : M18 54 [l0, l1, .val (.int v)] st H Q = M18 55 [l0, l1, .val (.int v)] (.int v :: st) H Q := w_x (show decode kb18 54 = .ok (.iload_n 2, 1) from by decide +kernel) rfl
theorem m18_55 : M18 55 ls (.int y :: .int x :: st) H Q = M18 56 ls (.int (x + y) :: st) H Q := w_x (show decode kb18 55 = .ok (.iadd, 1) from by decide +kernel) rfl
theorem m18_56 : M18 56 [.val (.ref r), l1, l2] st H Q = M18 57 [.val (.ref r), l1, l2] (.ref r :: st) H Q := w_x (show decode kb18 56 = .ok (.aload_n 0, 1) from by decide +kernel) rfl
theorem m18_57 : M18 57 ls (.ref (b + 1) :: st) (put (b + 1) pre s A post) Q = M18 60 ls (.ref ((b + 1) + 10) :: st) (put (b + 1) pre s A post) Q := w_get (show decode kb18 57 = .ok (.getfield 37, 3) from by decide +kernel) gf_37 put_o rfl
theorem m18_60 : M18 60 [l0, l1, .val (.int v)] st H Q = M18 61 [l0, l1, .val (.int v)] (.int v :: st) H Q := w_x (show decode kb18 60 = .ok (.iload_n 2, 1) from by decide +kernel) rfl
theorem m18_61  : M18 61 ls (.int j :: .ref ((b + 1) + 10) :: st) (put (b + 1) pre s A post) Q = (inB j (A 9) ∧ M18 62 ls (.int (getA (A 9) j) :: st) (put (b + 1) pre s A post) Q) := w_ild (show decode kb18 61 = .ok (.iaload, 1) from by decide +kernel) rfl put_a9
theorem m18_62  : M18 62 ls (.int v :: .int j :: .ref ((b + 1) + 5) :: st) (put (b + 1) pre s A post) Q = (inB j (A 4) ∧ M18 63 ls st (put (b + 1) pre s (ou A 4 (setA (A 4) j v)) post) Q) := w_ist (show decode kb18 62 = .ok (.iastore, 1) from by decide +kernel) rfl put_a4 (by omega) rfl put_w4
theorem m18_63 : M18 63 [.val (.ref r), l1, l2] st H Q = M18 64 [.val (.ref r), l1, l2] (.ref r :: st) H Q := w_x (show decode kb18 63 = .ok (.aload_n 0, 1) from by decide +kernel) rfl
theorem m18_64 : M18 64 ls (.ref (b + 1) :: st) (put (b + 1) pre s A post) Q = M18 67 ls (.ref ((b + 1) + 6) :: st) (put (b + 1) pre s A post) Q := w_get (show decode kb18 64 = .ok (.getfield 25, 3) from by decide +kernel) gf_25 put_o rfl
theorem m18_67 : M18 67 [l0, .val (.int v), l2] st H Q = M18 68 [l0, .val (.int v), l2] (.int v :: st) H Q := w_x (show decode kb18 67 = .ok (.iload_n 1, 1) from by decide +kernel) rfl
theorem m18_68 : M18 68 ls st H Q = M18 69 ls (.int 4 :: st) H Q := w_con (show decode kb18 68 = .ok (.iconst 4, 1) from by decide +kernel) rfl (by decide)
theorem m18_69 : M18 69 ls (.int y :: .int x :: st) H Q = M18 70 ls (.int (x * y) :: st) H Q := w_x (show decode kb18 69 = .ok (.imul, 1) from by decide +kernel) rfl
theorem m18_70 : M18 70 [l0, l1, .val (.int v)] st H Q = M18 71 [l0, l1, .val (.int v)] (.int v :: st) H Q := w_x (show decode kb18 70 = .ok (.iload_n 2, 1) from by decide +kernel) rfl
theorem m18_71 : M18 71 ls (.int y :: .int x :: st) H Q = M18 72 ls (.int (x + y) :: st) H Q := w_x (show decode kb18 71 = .ok (.iadd, 1) from by decide +kernel) rfl
theorem m18_72 : M18 72 [.val (.ref r), l1, l2] st H Q = M18 73 [.val (.ref r), l1, l2] (.ref r :: st) H Q := w_x (show decode kb18 72 = .ok (.aload_n 0, 1) from by decide +kernel) rfl
theorem m18_73 : M18 73 ls (.ref (b + 1) :: st) (put (b + 1) pre s A post) Q = M18 76 ls (.ref ((b + 1) + 11) :: st) (put (b + 1) pre s A post) Q := w_get (show decode kb18 73 = .ok (.getfield 40, 3) from by decide +kernel) gf_40 put_o rfl
theorem m18_76 : M18 76 [l0, l1, .val (.int v)] st H Q = M18 77 [l0, l1, .val (.int v)] (.int v :: st) H Q := w_x (show decode kb18 76 = .ok (.iload_n 2, 1) from by decide +kernel) rfl
theorem m18_77  : M18 77 ls (.int j :: .ref ((b + 1) + 11) :: st) (put (b + 1) pre s A post) Q = (inB j (A 10) ∧ M18 78 ls (.int (getA (A 10) j) :: st) (put (b + 1) pre s A post) Q) := w_ild (show decode kb18 77 = .ok (.iaload, 1) from by decide +kernel) rfl put_a10
theorem m18_78  : M18 78 ls (.int v :: .int j :: .ref ((b + 1) + 6) :: st) (put (b + 1) pre s A post) Q = (inB j (A 5) ∧ M18 79 ls st (put (b + 1) pre s (ou A 5 (setA (A 5) j v)) post) Q) := w_ist (show decode kb18 78 = .ok (.iastore, 1) from by decide +kernel) rfl put_a5 (by omega) rfl put_w5
theorem m18_79 : M18 79 [l0, l1, .val (.int v)] st H Q = M18 82 [l0, l1, .val (.int (v + 1))] st H Q := w_iinc (show decode kb18 79 = .ok (.iinc 2 1, 3) from by decide +kernel) rfl (by decide) rfl
theorem m18_82 : M18 82 ls st H Q = M18 42 ls st H Q := w_x (show decode kb18 82 = .ok (.goto (-40), 3) from by decide +kernel) rfl
theorem m18_85 : M18 85 ls [] H Q = Q none H := w_vret (show decode kb18 85 = .ok (.return_, 1) from by decide +kernel) rfl
theorem m19_0 : M19 0 [.val (.ref r), l1, l2, l3, l4] st H Q = M19 1 [.val (.ref r), l1, l2, l3, l4] (.ref r :: st) H Q := w_x (show decode kb19 0 = .ok (.aload_n 0, 1) from by decide +kernel) rfl
theorem m19_1 : M19 1 [l0, .val (.int v), l2, l3, l4] st H Q = M19 2 [l0, .val (.int v), l2, l3, l4] (.int v :: st) H Q := w_x (show decode kb19 1 = .ok (.iload_n 1, 1) from by decide +kernel) rfl
theorem cr19_129 : vR tables_1 dn y19 129 = some (true, y20, prog_1_method_12_code, 5, none, 1, 23) := pR_of (cR_of (by decide +kernel) rc_20 dn_20 dn_19 (sig := ⟨[.int], none⟩) (by decide +kernel) (by decide +kernel) rfl rfl) (by decide +kernel) (by decide +kernel)
theorem m19_2 (a0 : Int32) : M19 2 ls [.int a0, .ref (b + 1)] (put (b + 1) pre s A post) Q = M20 0 [.val (.ref (b + 1)), .val (.int a0), .unset, .unset, .unset] [] (put (b + 1) pre s A post) (fun v H1 => M19 5 ls (v.toList ++ []) H1 Q) := w_virt (as := [.int a0]) (rest := []) (a := (b + 1)) (show decode kb19 2 = .ok (.invokevirtual 129, 3) from by decide +kernel) cr19_129 put_o rfl rfl (Nat.le_of_ble_eq_true rfl) (by show 2 ≤ 5; omega) rfl
theorem m19_5 : M19 5 ls st H Q = M19 6 ls (.int 0 :: st) H Q := w_con (show decode kb19 5 = .ok (.iconst 0, 1) from by decide +kernel) rfl (by decide)
theorem m19_6u : M19 6 [l0, l1, .unset, l3, l4] ((.int v) :: st) H Q = M19 7 [l0, l1, .val (.int v), l3, l4] st H Q := w_st (i := 2) (p := isI) (show decode kb19 6 = .ok (.istore_n 2, 1) from by decide +kernel) rfl rfl rfl rfl rfl rfl
theorem m19_7 : M19 7 [l0, l1, .val (.int v), l3, l4] st H Q = M19 8 [l0, l1, .val (.int v), l3, l4] (.int v :: st) H Q := w_x (show decode kb19 7 = .ok (.iload_n 2, 1) from by decide +kernel) rfl
theorem m19_8 : M19 8 [l0, .val (.int v), l2, l3, l4] st H Q = M19 9 [l0, .val (.int v), l2, l3, l4] (.int v :: st) H Q := w_x (show decode kb19 8 = .ok (.iload_n 1, 1) from by decide +kernel) rfl
theorem m19_9 : M19 9 ls (.int y :: .int x :: st) H Q = if x < y then M19 12 ls st H Q else M19 56 ls st H Q := w_icmpN (show decode kb19 9 = .ok (.if_icmp .ge 47, 3) from by decide +kernel) (i_ge x y) rfl
theorem m19_12 : M19 12 [.val (.ref r), l1, l2, l3, l4] st H Q = M19 13 [.val (.ref r), l1, l2, l3, l4] (.ref r :: st) H Q := w_x (show decode kb19 12 = .ok (.aload_n 0, 1) from by decide +kernel) rfl
theorem m19_13 : M19 13 [l0, l1, .val (.int v), l3, l4] st H Q = M19 14 [l0, l1, .val (.int v), l3, l4] (.int v :: st) H Q := w_x (show decode kb19 13 = .ok (.iload_n 2, 1) from by decide +kernel) rfl
theorem m19_14 : M19 14 [l0, .val (.int v), l2, l3, l4] st H Q = M19 15 [l0, .val (.int v), l2, l3, l4] (.int v :: st) H Q := w_x (show decode kb19 14 = .ok (.iload_n 1, 1) from by decide +kernel) rfl
theorem cr19_132 : vR tables_1 dn y19 132 = some (true, y21, prog_1_method_13_code, 8, (some .int), 2, 20) := pR_of (cR_of (by decide +kernel) rc_21 dn_21 dn_19 (sig := ⟨[.int, .int], some .int⟩) (by decide +kernel) (by decide +kernel) rfl rfl) (by decide +kernel) (by decide +kernel)
theorem m19_15 (a0 : Int32) (a1 : Int32) : M19 15 ls [.int a1, .int a0, .ref (b + 1)] (put (b + 1) pre s A post) Q = M21 0 [.val (.ref (b + 1)), .val (.int a0), .val (.int a1), .unset, .unset, .unset, .unset, .unset] [] (put (b + 1) pre s A post) (fun v H1 => M19 18 ls (v.toList ++ []) H1 Q) := w_virt (as := [.int a1, .int a0]) (rest := []) (a := (b + 1)) (show decode kb19 15 = .ok (.invokevirtual 132, 3) from by decide +kernel) cr19_132 put_o rfl rfl (Nat.le_of_ble_eq_true rfl) (by show 3 ≤ 8; omega) rfl
theorem m19_18u : M19 18 [l0, l1, l2, .unset, l4] ((.int v) :: st) H Q = M19 19 [l0, l1, l2, .val (.int v), l4] st H Q := w_st (i := 3) (p := isI) (show decode kb19 18 = .ok (.istore_n 3, 1) from by decide +kernel) rfl rfl rfl rfl rfl rfl
theorem m19_18i : M19 18 [l0, l1, l2, .val (.int z), l4] ((.int v) :: st) H Q = M19 19 [l0, l1, l2, .val (.int v), l4] st H Q := w_st (i := 3) (p := isI) (show decode kb19 18 = .ok (.istore_n 3, 1) from by decide +kernel) rfl rfl rfl rfl rfl rfl
theorem m19_18r : M19 18 [l0, l1, l2, .val (.ref q), l4] ((.int v) :: st) H Q = M19 19 [l0, l1, l2, .val (.int v), l4] st H Q := w_st (i := 3) (p := isI) (show decode kb19 18 = .ok (.istore_n 3, 1) from by decide +kernel) rfl rfl rfl rfl rfl rfl
theorem m19_18g (h : okS l3) : M19 18 [l0, l1, l2, l3, l4] ((.int v) :: st) H Q = M19 19 [l0, l1, l2, .val (.int v), l4] st H Q := by rcases h with rfl | ⟨z, rfl⟩ <;> first | exact m19_18u | exact m19_18i
theorem m19_19 : M19 19 [.val (.ref r), l1, l2, l3, l4] st H Q = M19 20 [.val (.ref r), l1, l2, l3, l4] (.ref r :: st) H Q := w_x (show decode kb19 19 = .ok (.aload_n 0, 1) from by decide +kernel) rfl
theorem m19_20 : M19 20 ls (.ref (b + 1) :: st) (put (b + 1) pre s A post) Q = M19 23 ls (.ref ((b + 1) + 13) :: st) (put (b + 1) pre s A post) Q := w_get (show decode kb19 20 = .ok (.getfield 46, 3) from by decide +kernel) gf_46 put_o rfl
theorem m19_23 : M19 23 [l0, l1, .val (.int v), l3, l4] st H Q = M19 24 [l0, l1, .val (.int v), l3, l4] (.int v :: st) H Q := w_x (show decode kb19 23 = .ok (.iload_n 2, 1) from by decide +kernel) rfl
theorem m19_24 : M19 24 [l0, l1, l2, .val (.int v), l4] st H Q = M19 25 [l0, l1, l2, .val (.int v), l4] (.int v :: st) H Q := w_x (show decode kb19 24 = .ok (.iload_n 3, 1) from by decide +kernel) rfl
theorem m19_25  : M19 25 ls (.int v :: .int j :: .ref ((b + 1) + 13) :: st) (put (b + 1) pre s A post) Q = (inB j (A 12) ∧ M19 26 ls st (put (b + 1) pre s (ou A 12 (setA (A 12) j v)) post) Q) := w_ist (show decode kb19 25 = .ok (.iastore, 1) from by decide +kernel) rfl put_a12 (by omega) rfl put_w12
theorem m19_26 : M19 26 [.val (.ref r), l1, l2, l3, l4] st H Q = M19 27 [.val (.ref r), l1, l2, l3, l4] (.ref r :: st) H Q := w_x (show decode kb19 26 = .ok (.aload_n 0, 1) from by decide +kernel) rfl
theorem m19_27 : M19 27 [l0, l1, .val (.int v), l3, l4] st H Q = M19 28 [l0, l1, .val (.int v), l3, l4] (.int v :: st) H Q := w_x (show decode kb19 27 = .ok (.iload_n 2, 1) from by decide +kernel) rfl
theorem m19_28 : M19 28 [l0, .val (.int v), l2, l3, l4] st H Q = M19 29 [l0, .val (.int v), l2, l3, l4] (.int v :: st) H Q := w_x (show decode kb19 28 = .ok (.iload_n 1, 1) from by decide +kernel) rfl
theorem m19_29 : M19 29 [l0, l1, l2, .val (.int v), l4] st H Q = M19 30 [l0, l1, l2, .val (.int v), l4] (.int v :: st) H Q := w_x (show decode kb19 29 = .ok (.iload_n 3, 1) from by decide +kernel) rfl
theorem cr19_135 : vR tables_1 dn y19 135 = some (true, y22, prog_1_method_14_code, 8, (some .int), 3, 0) := pR_of (cR_of (by decide +kernel) rc_22 dn_22 dn_19 (sig := ⟨[.int, .int, .int], some .int⟩) (by decide +kernel) (by decide +kernel) rfl rfl) (by decide +kernel) (by decide +kernel)
theorem m19_30 (a0 : Int32) (a1 : Int32) (a2 : Int32) : M19 30 ls [.int a2, .int a1, .int a0, .ref (b + 1)] (put (b + 1) pre s A post) Q = M22 0 [.val (.ref (b + 1)), .val (.int a0), .val (.int a1), .val (.int a2), .unset, .unset, .unset, .unset] [] (put (b + 1) pre s A post) (fun v H1 => M19 33 ls (v.toList ++ []) H1 Q) := w_virt (as := [.int a2, .int a1, .int a0]) (rest := []) (a := (b + 1)) (show decode kb19 30 = .ok (.invokevirtual 135, 3) from by decide +kernel) cr19_135 put_o rfl rfl (Nat.le_of_ble_eq_true rfl) (by show 4 ≤ 8; omega) rfl
theorem m19_33u : M19 33 [l0, l1, l2, l3, .unset] ((.int v) :: st) H Q = M19 35 [l0, l1, l2, l3, .val (.int v)] st H Q := w_st (i := 4) (p := isI) (show decode kb19 33 = .ok (.istore 4, 2) from by decide +kernel) rfl rfl rfl rfl rfl rfl
theorem m19_33i : M19 33 [l0, l1, l2, l3, .val (.int z)] ((.int v) :: st) H Q = M19 35 [l0, l1, l2, l3, .val (.int v)] st H Q := w_st (i := 4) (p := isI) (show decode kb19 33 = .ok (.istore 4, 2) from by decide +kernel) rfl rfl rfl rfl rfl rfl
theorem m19_33r : M19 33 [l0, l1, l2, l3, .val (.ref q)] ((.int v) :: st) H Q = M19 35 [l0, l1, l2, l3, .val (.int v)] st H Q := w_st (i := 4) (p := isI) (show decode kb19 33 = .ok (.istore 4, 2) from by decide +kernel) rfl rfl rfl rfl rfl rfl
theorem m19_33g (h : okS l4) : M19 33 [l0, l1, l2, l3, l4] ((.int v) :: st) H Q = M19 35 [l0, l1, l2, l3, .val (.int v)] st H Q := by rcases h with rfl | ⟨z, rfl⟩ <;> first | exact m19_33u | exact m19_33i
theorem m19_35 : M19 35 [l0, l1, l2, l3, .val (.int v)] st H Q = M19 37 [l0, l1, l2, l3, .val (.int v)] (.int v :: st) H Q := w_x (show decode kb19 35 = .ok (.iload 4, 2) from by decide +kernel) rfl
theorem m19_37 : M19 37 ls (.int x :: st) H Q = if x < 0 then M19 40 ls st H Q else M19 42 ls st H Q := w_ifN (show decode kb19 37 = .ok (.ifCond .ge 5, 3) from by decide +kernel) (z_ge x) rfl
theorem m19_40 : M19 40 [l0, l1, .val (.int v), l3, l4] st H Q = M19 41 [l0, l1, .val (.int v), l3, l4] (.int v :: st) H Q := w_x (show decode kb19 40 = .ok (.iload_n 2, 1) from by decide +kernel) rfl
theorem m19_41 : M19 41 ls (.int z :: st) H Q = Q (some (.int z)) H := w_iret (show decode kb19 41 = .ok (.ireturn, 1) from by decide +kernel) rfl
theorem m19_42 : M19 42 [.val (.ref r), l1, l2, l3, l4] st H Q = M19 43 [.val (.ref r), l1, l2, l3, l4] (.ref r :: st) H Q := w_x (show decode kb19 42 = .ok (.aload_n 0, 1) from by decide +kernel) rfl
theorem m19_43 : M19 43 ls (.ref (b + 1) :: st) (put (b + 1) pre s A post) Q = M19 46 ls (.ref ((b + 1) + 14) :: st) (put (b + 1) pre s A post) Q := w_get (show decode kb19 43 = .ok (.getfield 49, 3) from by decide +kernel) gf_49 put_o rfl
theorem m19_46 : M19 46 [l0, l1, .val (.int v), l3, l4] st H Q = M19 47 [l0, l1, .val (.int v), l3, l4] (.int v :: st) H Q := w_x (show decode kb19 46 = .ok (.iload_n 2, 1) from by decide +kernel) rfl
theorem m19_47 : M19 47 [l0, l1, l2, l3, .val (.int v)] st H Q = M19 49 [l0, l1, l2, l3, .val (.int v)] (.int v :: st) H Q := w_x (show decode kb19 47 = .ok (.iload 4, 2) from by decide +kernel) rfl
theorem m19_49  : M19 49 ls (.int v :: .int j :: .ref ((b + 1) + 14) :: st) (put (b + 1) pre s A post) Q = (inB j (A 13) ∧ M19 50 ls st (put (b + 1) pre s (ou A 13 (setA (A 13) j v)) post) Q) := w_ist (show decode kb19 49 = .ok (.iastore, 1) from by decide +kernel) rfl put_a13 (by omega) rfl put_w13
theorem m19_50 : M19 50 [l0, l1, .val (.int v), l3, l4] st H Q = M19 53 [l0, l1, .val (.int (v + 1)), l3, l4] st H Q := w_iinc (show decode kb19 50 = .ok (.iinc 2 1, 3) from by decide +kernel) rfl (by decide) rfl
theorem m19_53 : M19 53 ls st H Q = M19 7 ls st H Q := w_x (show decode kb19 53 = .ok (.goto (-46), 3) from by decide +kernel) rfl
theorem m19_56 : M19 56 ls st H Q = M19 57 ls (.int (-1) :: st) H Q := w_con (show decode kb19 56 = .ok (.iconst (-1), 1) from by decide +kernel) rfl (by decide)
theorem m19_57 : M19 57 ls (.int z :: st) H Q = Q (some (.int z)) H := w_iret (show decode kb19 57 = .ok (.ireturn, 1) from by decide +kernel) rfl
theorem m20_0 : M20 0 ls st H Q = M20 1 ls (.int 0 :: st) H Q := w_con (show decode kb20 0 = .ok (.iconst 0, 1) from by decide +kernel) rfl (by decide)
theorem m20_1u : M20 1 [l0, l1, .unset, l3, l4] ((.int v) :: st) H Q = M20 2 [l0, l1, .val (.int v), l3, l4] st H Q := w_st (i := 2) (p := isI) (show decode kb20 1 = .ok (.istore_n 2, 1) from by decide +kernel) rfl rfl rfl rfl rfl rfl
theorem m20_2 : M20 2 [l0, l1, .val (.int v), l3, l4] st H Q = M20 3 [l0, l1, .val (.int v), l3, l4] (.int v :: st) H Q := w_x (show decode kb20 2 = .ok (.iload_n 2, 1) from by decide +kernel) rfl
theorem m20_3 : M20 3 ls st H Q = M20 4 ls (.int 4 :: st) H Q := w_con (show decode kb20 3 = .ok (.iconst 4, 1) from by decide +kernel) rfl (by decide)
theorem m20_4 : M20 4 ls (.int y :: .int x :: st) H Q = if x < y then M20 7 ls st H Q else M20 70 ls st H Q := w_icmpN (show decode kb20 4 = .ok (.if_icmp .ge 66, 3) from by decide +kernel) (i_ge x y) rfl
theorem m20_7 : M20 7 ls st H Q = M20 8 ls (.int 0 :: st) H Q := w_con (show decode kb20 7 = .ok (.iconst 0, 1) from by decide +kernel) rfl (by decide)
theorem m20_8u : M20 8 [l0, l1, l2, .unset, l4] ((.int v) :: st) H Q = M20 9 [l0, l1, l2, .val (.int v), l4] st H Q := w_st (i := 3) (p := isI) (show decode kb20 8 = .ok (.istore_n 3, 1) from by decide +kernel) rfl rfl rfl rfl rfl rfl
theorem m20_8i : M20 8 [l0, l1, l2, .val (.int z), l4] ((.int v) :: st) H Q = M20 9 [l0, l1, l2, .val (.int v), l4] st H Q := w_st (i := 3) (p := isI) (show decode kb20 8 = .ok (.istore_n 3, 1) from by decide +kernel) rfl rfl rfl rfl rfl rfl
theorem m20_8r : M20 8 [l0, l1, l2, .val (.ref q), l4] ((.int v) :: st) H Q = M20 9 [l0, l1, l2, .val (.int v), l4] st H Q := w_st (i := 3) (p := isI) (show decode kb20 8 = .ok (.istore_n 3, 1) from by decide +kernel) rfl rfl rfl rfl rfl rfl
theorem m20_8g (h : okS l3) : M20 8 [l0, l1, l2, l3, l4] ((.int v) :: st) H Q = M20 9 [l0, l1, l2, .val (.int v), l4] st H Q := by rcases h with rfl | ⟨z, rfl⟩ <;> first | exact m20_8u | exact m20_8i
theorem m20_9 : M20 9 ls st H Q = M20 10 ls (.int 0 :: st) H Q := w_con (show decode kb20 9 = .ok (.iconst 0, 1) from by decide +kernel) rfl (by decide)
theorem m20_10u : M20 10 [l0, l1, l2, l3, .unset] ((.int v) :: st) H Q = M20 12 [l0, l1, l2, l3, .val (.int v)] st H Q := w_st (i := 4) (p := isI) (show decode kb20 10 = .ok (.istore 4, 2) from by decide +kernel) rfl rfl rfl rfl rfl rfl
theorem m20_10i : M20 10 [l0, l1, l2, l3, .val (.int z)] ((.int v) :: st) H Q = M20 12 [l0, l1, l2, l3, .val (.int v)] st H Q := w_st (i := 4) (p := isI) (show decode kb20 10 = .ok (.istore 4, 2) from by decide +kernel) rfl rfl rfl rfl rfl rfl
theorem m20_10r : M20 10 [l0, l1, l2, l3, .val (.ref q)] ((.int v) :: st) H Q = M20 12 [l0, l1, l2, l3, .val (.int v)] st H Q := w_st (i := 4) (p := isI) (show decode kb20 10 = .ok (.istore 4, 2) from by decide +kernel) rfl rfl rfl rfl rfl rfl
theorem m20_10g (h : okS l4) : M20 10 [l0, l1, l2, l3, l4] ((.int v) :: st) H Q = M20 12 [l0, l1, l2, l3, .val (.int v)] st H Q := by rcases h with rfl | ⟨z, rfl⟩ <;> first | exact m20_10u | exact m20_10i
theorem m20_12 : M20 12 [l0, l1, l2, l3, .val (.int v)] st H Q = M20 14 [l0, l1, l2, l3, .val (.int v)] (.int v :: st) H Q := w_x (show decode kb20 12 = .ok (.iload 4, 2) from by decide +kernel) rfl
theorem m20_14 : M20 14 [l0, .val (.int v), l2, l3, l4] st H Q = M20 15 [l0, .val (.int v), l2, l3, l4] (.int v :: st) H Q := w_x (show decode kb20 14 = .ok (.iload_n 1, 1) from by decide +kernel) rfl
theorem m20_15 : M20 15 ls (.int y :: .int x :: st) H Q = if x < y then M20 18 ls st H Q else M20 57 ls st H Q := w_icmpN (show decode kb20 15 = .ok (.if_icmp .ge 42, 3) from by decide +kernel) (i_ge x y) rfl
theorem m20_18 : M20 18 [.val (.ref r), l1, l2, l3, l4] st H Q = M20 19 [.val (.ref r), l1, l2, l3, l4] (.ref r :: st) H Q := w_x (show decode kb20 18 = .ok (.aload_n 0, 1) from by decide +kernel) rfl
theorem m20_19 : M20 19 ls (.ref (b + 1) :: st) (put (b + 1) pre s A post) Q = M20 22 ls (.ref ((b + 1) + 6) :: st) (put (b + 1) pre s A post) Q := w_get (show decode kb20 19 = .ok (.getfield 25, 3) from by decide +kernel) gf_25 put_o rfl
theorem m20_22 : M20 22 [l0, l1, l2, l3, .val (.int v)] st H Q = M20 24 [l0, l1, l2, l3, .val (.int v)] (.int v :: st) H Q := w_x (show decode kb20 22 = .ok (.iload 4, 2) from by decide +kernel) rfl
theorem m20_24 : M20 24 ls st H Q = M20 25 ls (.int 4 :: st) H Q := w_con (show decode kb20 24 = .ok (.iconst 4, 1) from by decide +kernel) rfl (by decide)
theorem m20_25 : M20 25 ls (.int y :: .int x :: st) H Q = M20 26 ls (.int (x * y) :: st) H Q := w_x (show decode kb20 25 = .ok (.imul, 1) from by decide +kernel) rfl
theorem m20_26 : M20 26 [l0, l1, .val (.int v), l3, l4] st H Q = M20 27 [l0, l1, .val (.int v), l3, l4] (.int v :: st) H Q := w_x (show decode kb20 26 = .ok (.iload_n 2, 1) from by decide +kernel) rfl
theorem m20_27 : M20 27 ls (.int y :: .int x :: st) H Q = M20 28 ls (.int (x + y) :: st) H Q := w_x (show decode kb20 27 = .ok (.iadd, 1) from by decide +kernel) rfl
theorem m20_28  : M20 28 ls (.int j :: .ref ((b + 1) + 6) :: st) (put (b + 1) pre s A post) Q = (inB j (A 5) ∧ M20 29 ls (.int (getA (A 5) j) :: st) (put (b + 1) pre s A post) Q) := w_ild (show decode kb20 28 = .ok (.iaload, 1) from by decide +kernel) rfl put_a5
theorem m20_29 : M20 29 ls (.int x :: st) H Q = if 0 < x then M20 32 ls st H Q else M20 51 ls st H Q := w_ifN (show decode kb20 29 = .ok (.ifCond .le 22, 3) from by decide +kernel) (z_le x) rfl
theorem m20_32 : M20 32 [.val (.ref r), l1, l2, l3, l4] st H Q = M20 33 [.val (.ref r), l1, l2, l3, l4] (.ref r :: st) H Q := w_x (show decode kb20 32 = .ok (.aload_n 0, 1) from by decide +kernel) rfl
theorem m20_33 : M20 33 ls (.ref (b + 1) :: st) (put (b + 1) pre s A post) Q = M20 36 ls (.ref ((b + 1) + 4) :: st) (put (b + 1) pre s A post) Q := w_get (show decode kb20 33 = .ok (.getfield 19, 3) from by decide +kernel) gf_19 put_o rfl
theorem m20_36 : M20 36 [l0, l1, l2, l3, .val (.int v)] st H Q = M20 38 [l0, l1, l2, l3, .val (.int v)] (.int v :: st) H Q := w_x (show decode kb20 36 = .ok (.iload 4, 2) from by decide +kernel) rfl
theorem m20_38  : M20 38 ls (.int j :: .ref ((b + 1) + 4) :: st) (put (b + 1) pre s A post) Q = (inB j (A 3) ∧ M20 39 ls (.int (getA (A 3) j) :: st) (put (b + 1) pre s A post) Q) := w_ild (show decode kb20 38 = .ok (.iaload, 1) from by decide +kernel) rfl put_a3
theorem m20_39 : M20 39 [l0, l1, l2, .val (.int v), l4] st H Q = M20 40 [l0, l1, l2, .val (.int v), l4] (.int v :: st) H Q := w_x (show decode kb20 39 = .ok (.iload_n 3, 1) from by decide +kernel) rfl
theorem m20_40 : M20 40 ls (.int y :: .int x :: st) H Q = if y < x then M20 43 ls st H Q else M20 51 ls st H Q := w_icmpN (show decode kb20 40 = .ok (.if_icmp .le 11, 3) from by decide +kernel) (i_le x y) rfl
theorem m20_43 : M20 43 [.val (.ref r), l1, l2, l3, l4] st H Q = M20 44 [.val (.ref r), l1, l2, l3, l4] (.ref r :: st) H Q := w_x (show decode kb20 43 = .ok (.aload_n 0, 1) from by decide +kernel) rfl
theorem m20_44 : M20 44 ls (.ref (b + 1) :: st) (put (b + 1) pre s A post) Q = M20 47 ls (.ref ((b + 1) + 4) :: st) (put (b + 1) pre s A post) Q := w_get (show decode kb20 44 = .ok (.getfield 19, 3) from by decide +kernel) gf_19 put_o rfl
theorem m20_47 : M20 47 [l0, l1, l2, l3, .val (.int v)] st H Q = M20 49 [l0, l1, l2, l3, .val (.int v)] (.int v :: st) H Q := w_x (show decode kb20 47 = .ok (.iload 4, 2) from by decide +kernel) rfl
theorem m20_49  : M20 49 ls (.int j :: .ref ((b + 1) + 4) :: st) (put (b + 1) pre s A post) Q = (inB j (A 3) ∧ M20 50 ls (.int (getA (A 3) j) :: st) (put (b + 1) pre s A post) Q) := w_ild (show decode kb20 49 = .ok (.iaload, 1) from by decide +kernel) rfl put_a3
theorem m20_50i : M20 50 [l0, l1, l2, .val (.int z), l4] ((.int v) :: st) H Q = M20 51 [l0, l1, l2, .val (.int v), l4] st H Q := w_st (i := 3) (p := isI) (show decode kb20 50 = .ok (.istore_n 3, 1) from by decide +kernel) rfl rfl rfl rfl rfl rfl
theorem m20_51 : M20 51 [l0, l1, l2, l3, .val (.int v)] st H Q = M20 54 [l0, l1, l2, l3, .val (.int (v + 1))] st H Q := w_iinc (show decode kb20 51 = .ok (.iinc 4 1, 3) from by decide +kernel) rfl (by decide) rfl
theorem m20_54 : M20 54 ls st H Q = M20 12 ls st H Q := w_x (show decode kb20 54 = .ok (.goto (-42), 3) from by decide +kernel) rfl
theorem m20_57 : M20 57 [.val (.ref r), l1, l2, l3, l4] st H Q = M20 58 [.val (.ref r), l1, l2, l3, l4] (.ref r :: st) H Q := w_x (show decode kb20 57 = .ok (.aload_n 0, 1) from by decide +kernel) rfl
theorem m20_58 : M20 58 ls (.ref (b + 1) :: st) (put (b + 1) pre s A post) Q = M20 61 ls (.ref ((b + 1) + 12) :: st) (put (b + 1) pre s A post) Q := w_get (show decode kb20 58 = .ok (.getfield 43, 3) from by decide +kernel) gf_43 put_o rfl
theorem m20_61 : M20 61 [l0, l1, .val (.int v), l3, l4] st H Q = M20 62 [l0, l1, .val (.int v), l3, l4] (.int v :: st) H Q := w_x (show decode kb20 61 = .ok (.iload_n 2, 1) from by decide +kernel) rfl
theorem m20_62 : M20 62 [l0, l1, l2, .val (.int v), l4] st H Q = M20 63 [l0, l1, l2, .val (.int v), l4] (.int v :: st) H Q := w_x (show decode kb20 62 = .ok (.iload_n 3, 1) from by decide +kernel) rfl
theorem m20_63  : M20 63 ls (.int v :: .int j :: .ref ((b + 1) + 12) :: st) (put (b + 1) pre s A post) Q = (inB j (A 11) ∧ M20 64 ls st (put (b + 1) pre s (ou A 11 (setA (A 11) j v)) post) Q) := w_ist (show decode kb20 63 = .ok (.iastore, 1) from by decide +kernel) rfl put_a11 (by omega) rfl put_w11
theorem m20_64 : M20 64 [l0, l1, .val (.int v), l3, l4] st H Q = M20 67 [l0, l1, .val (.int (v + 1)), l3, l4] st H Q := w_iinc (show decode kb20 64 = .ok (.iinc 2 1, 3) from by decide +kernel) rfl (by decide) rfl
theorem m20_67 : M20 67 ls st H Q = M20 2 ls st H Q := w_x (show decode kb20 67 = .ok (.goto (-65), 3) from by decide +kernel) rfl
theorem m20_70 : M20 70 ls [] H Q = Q none H := w_vret (show decode kb20 70 = .ok (.return_, 1) from by decide +kernel) rfl
theorem m21_0 : M21 0 ls st H Q = M21 1 ls (.int 0 :: st) H Q := w_con (show decode kb21 0 = .ok (.iconst 0, 1) from by decide +kernel) rfl (by decide)
theorem m21_1u : M21 1 [l0, l1, l2, .unset, l4, l5, l6, l7] ((.int v) :: st) H Q = M21 2 [l0, l1, l2, .val (.int v), l4, l5, l6, l7] st H Q := w_st (i := 3) (p := isI) (show decode kb21 1 = .ok (.istore_n 3, 1) from by decide +kernel) rfl rfl rfl rfl rfl rfl
theorem m21_2 : M21 2 [.val (.ref r), l1, l2, l3, l4, l5, l6, l7] st H Q = M21 3 [.val (.ref r), l1, l2, l3, l4, l5, l6, l7] (.ref r :: st) H Q := w_x (show decode kb21 2 = .ok (.aload_n 0, 1) from by decide +kernel) rfl
theorem m21_3 : M21 3 ls (.ref (b + 1) :: st) (put (b + 1) pre s A post) Q = M21 6 ls (.ref ((b + 1) + 4) :: st) (put (b + 1) pre s A post) Q := w_get (show decode kb21 3 = .ok (.getfield 19, 3) from by decide +kernel) gf_19 put_o rfl
theorem m21_6 : M21 6 [l0, .val (.int v), l2, l3, l4, l5, l6, l7] st H Q = M21 7 [l0, .val (.int v), l2, l3, l4, l5, l6, l7] (.int v :: st) H Q := w_x (show decode kb21 6 = .ok (.iload_n 1, 1) from by decide +kernel) rfl
theorem m21_7  : M21 7 ls (.int j :: .ref ((b + 1) + 4) :: st) (put (b + 1) pre s A post) Q = (inB j (A 3) ∧ M21 8 ls (.int (getA (A 3) j) :: st) (put (b + 1) pre s A post) Q) := w_ild (show decode kb21 7 = .ok (.iaload, 1) from by decide +kernel) rfl put_a3
theorem m21_8u : M21 8 [l0, l1, l2, l3, .unset, l5, l6, l7] ((.int v) :: st) H Q = M21 10 [l0, l1, l2, l3, .val (.int v), l5, l6, l7] st H Q := w_st (i := 4) (p := isI) (show decode kb21 8 = .ok (.istore 4, 2) from by decide +kernel) rfl rfl rfl rfl rfl rfl
theorem m21_10 : M21 10 ls st H Q = M21 11 ls (.int 0 :: st) H Q := w_con (show decode kb21 10 = .ok (.iconst 0, 1) from by decide +kernel) rfl (by decide)
theorem m21_11u : M21 11 [l0, l1, l2, l3, l4, .unset, l6, l7] ((.int v) :: st) H Q = M21 13 [l0, l1, l2, l3, l4, .val (.int v), l6, l7] st H Q := w_st (i := 5) (p := isI) (show decode kb21 11 = .ok (.istore 5, 2) from by decide +kernel) rfl rfl rfl rfl rfl rfl
theorem m21_13 : M21 13 [l0, l1, l2, l3, l4, .val (.int v), l6, l7] st H Q = M21 15 [l0, l1, l2, l3, l4, .val (.int v), l6, l7] (.int v :: st) H Q := w_x (show decode kb21 13 = .ok (.iload 5, 2) from by decide +kernel) rfl
theorem m21_15 : M21 15 [l0, l1, .val (.int v), l3, l4, l5, l6, l7] st H Q = M21 16 [l0, l1, .val (.int v), l3, l4, l5, l6, l7] (.int v :: st) H Q := w_x (show decode kb21 15 = .ok (.iload_n 2, 1) from by decide +kernel) rfl
theorem m21_16 : M21 16 ls (.int y :: .int x :: st) H Q = if x < y then M21 19 ls st H Q else M21 95 ls st H Q := w_icmpN (show decode kb21 16 = .ok (.if_icmp .ge 79, 3) from by decide +kernel) (i_ge x y) rfl
theorem m21_19 : M21 19 [.val (.ref r), l1, l2, l3, l4, l5, l6, l7] st H Q = M21 20 [.val (.ref r), l1, l2, l3, l4, l5, l6, l7] (.ref r :: st) H Q := w_x (show decode kb21 19 = .ok (.aload_n 0, 1) from by decide +kernel) rfl
theorem m21_20 : M21 20 ls (.ref (b + 1) :: st) (put (b + 1) pre s A post) Q = M21 23 ls (.ref ((b + 1) + 4) :: st) (put (b + 1) pre s A post) Q := w_get (show decode kb21 20 = .ok (.getfield 19, 3) from by decide +kernel) gf_19 put_o rfl
theorem m21_23 : M21 23 [l0, l1, l2, l3, l4, .val (.int v), l6, l7] st H Q = M21 25 [l0, l1, l2, l3, l4, .val (.int v), l6, l7] (.int v :: st) H Q := w_x (show decode kb21 23 = .ok (.iload 5, 2) from by decide +kernel) rfl
theorem m21_25  : M21 25 ls (.int j :: .ref ((b + 1) + 4) :: st) (put (b + 1) pre s A post) Q = (inB j (A 3) ∧ M21 26 ls (.int (getA (A 3) j) :: st) (put (b + 1) pre s A post) Q) := w_ild (show decode kb21 25 = .ok (.iaload, 1) from by decide +kernel) rfl put_a3
theorem m21_26 : M21 26 [l0, l1, l2, l3, .val (.int v), l5, l6, l7] st H Q = M21 28 [l0, l1, l2, l3, .val (.int v), l5, l6, l7] (.int v :: st) H Q := w_x (show decode kb21 26 = .ok (.iload 4, 2) from by decide +kernel) rfl
theorem m21_28 : M21 28 ls (.int y :: .int x :: st) H Q = if x < y then M21 34 ls st H Q else M21 31 ls st H Q := w_icmp (show decode kb21 28 = .ok (.if_icmp .lt 6, 3) from by decide +kernel) (i_lt x y) rfl
theorem m21_31 : M21 31 ls st H Q = M21 89 ls st H Q := w_x (show decode kb21 31 = .ok (.goto 58, 3) from by decide +kernel) rfl
theorem m21_34 : M21 34 ls st H Q = M21 35 ls (.int 0 :: st) H Q := w_con (show decode kb21 34 = .ok (.iconst 0, 1) from by decide +kernel) rfl (by decide)
theorem m21_35u : M21 35 [l0, l1, l2, l3, l4, l5, .unset, l7] ((.int v) :: st) H Q = M21 37 [l0, l1, l2, l3, l4, l5, .val (.int v), l7] st H Q := w_st (i := 6) (p := isI) (show decode kb21 35 = .ok (.istore 6, 2) from by decide +kernel) rfl rfl rfl rfl rfl rfl
theorem m21_35i : M21 35 [l0, l1, l2, l3, l4, l5, .val (.int z), l7] ((.int v) :: st) H Q = M21 37 [l0, l1, l2, l3, l4, l5, .val (.int v), l7] st H Q := w_st (i := 6) (p := isI) (show decode kb21 35 = .ok (.istore 6, 2) from by decide +kernel) rfl rfl rfl rfl rfl rfl
theorem m21_35r : M21 35 [l0, l1, l2, l3, l4, l5, .val (.ref q), l7] ((.int v) :: st) H Q = M21 37 [l0, l1, l2, l3, l4, l5, .val (.int v), l7] st H Q := w_st (i := 6) (p := isI) (show decode kb21 35 = .ok (.istore 6, 2) from by decide +kernel) rfl rfl rfl rfl rfl rfl
theorem m21_35g (h : okS l6) : M21 35 [l0, l1, l2, l3, l4, l5, l6, l7] ((.int v) :: st) H Q = M21 37 [l0, l1, l2, l3, l4, l5, .val (.int v), l7] st H Q := by rcases h with rfl | ⟨z, rfl⟩ <;> first | exact m21_35u | exact m21_35i
theorem m21_37 : M21 37 [l0, l1, l2, l3, l4, l5, .val (.int v), l7] st H Q = M21 39 [l0, l1, l2, l3, l4, l5, .val (.int v), l7] (.int v :: st) H Q := w_x (show decode kb21 37 = .ok (.iload 6, 2) from by decide +kernel) rfl
theorem m21_39 : M21 39 ls st H Q = M21 40 ls (.int 4 :: st) H Q := w_con (show decode kb21 39 = .ok (.iconst 4, 1) from by decide +kernel) rfl (by decide)
theorem m21_40 : M21 40 ls (.int y :: .int x :: st) H Q = if x < y then M21 43 ls st H Q else M21 89 ls st H Q := w_icmpN (show decode kb21 40 = .ok (.if_icmp .ge 49, 3) from by decide +kernel) (i_ge x y) rfl
theorem m21_43 : M21 43 [.val (.ref r), l1, l2, l3, l4, l5, l6, l7] st H Q = M21 44 [.val (.ref r), l1, l2, l3, l4, l5, l6, l7] (.ref r :: st) H Q := w_x (show decode kb21 43 = .ok (.aload_n 0, 1) from by decide +kernel) rfl
theorem m21_44 : M21 44 ls (.ref (b + 1) :: st) (put (b + 1) pre s A post) Q = M21 47 ls (.ref ((b + 1) + 6) :: st) (put (b + 1) pre s A post) Q := w_get (show decode kb21 44 = .ok (.getfield 25, 3) from by decide +kernel) gf_25 put_o rfl
theorem m21_47 : M21 47 [l0, l1, l2, l3, l4, .val (.int v), l6, l7] st H Q = M21 49 [l0, l1, l2, l3, l4, .val (.int v), l6, l7] (.int v :: st) H Q := w_x (show decode kb21 47 = .ok (.iload 5, 2) from by decide +kernel) rfl
theorem m21_49 : M21 49 ls st H Q = M21 50 ls (.int 4 :: st) H Q := w_con (show decode kb21 49 = .ok (.iconst 4, 1) from by decide +kernel) rfl (by decide)
theorem m21_50 : M21 50 ls (.int y :: .int x :: st) H Q = M21 51 ls (.int (x * y) :: st) H Q := w_x (show decode kb21 50 = .ok (.imul, 1) from by decide +kernel) rfl
theorem m21_51 : M21 51 [l0, l1, l2, l3, l4, l5, .val (.int v), l7] st H Q = M21 53 [l0, l1, l2, l3, l4, l5, .val (.int v), l7] (.int v :: st) H Q := w_x (show decode kb21 51 = .ok (.iload 6, 2) from by decide +kernel) rfl
theorem m21_53 : M21 53 ls (.int y :: .int x :: st) H Q = M21 54 ls (.int (x + y) :: st) H Q := w_x (show decode kb21 53 = .ok (.iadd, 1) from by decide +kernel) rfl
theorem m21_54  : M21 54 ls (.int j :: .ref ((b + 1) + 6) :: st) (put (b + 1) pre s A post) Q = (inB j (A 5) ∧ M21 55 ls (.int (getA (A 5) j) :: st) (put (b + 1) pre s A post) Q) := w_ild (show decode kb21 54 = .ok (.iaload, 1) from by decide +kernel) rfl put_a5
theorem m21_55u : M21 55 [l0, l1, l2, l3, l4, l5, l6, .unset] ((.int v) :: st) H Q = M21 57 [l0, l1, l2, l3, l4, l5, l6, .val (.int v)] st H Q := w_st (i := 7) (p := isI) (show decode kb21 55 = .ok (.istore 7, 2) from by decide +kernel) rfl rfl rfl rfl rfl rfl
theorem m21_55i : M21 55 [l0, l1, l2, l3, l4, l5, l6, .val (.int z)] ((.int v) :: st) H Q = M21 57 [l0, l1, l2, l3, l4, l5, l6, .val (.int v)] st H Q := w_st (i := 7) (p := isI) (show decode kb21 55 = .ok (.istore 7, 2) from by decide +kernel) rfl rfl rfl rfl rfl rfl
theorem m21_55r : M21 55 [l0, l1, l2, l3, l4, l5, l6, .val (.ref q)] ((.int v) :: st) H Q = M21 57 [l0, l1, l2, l3, l4, l5, l6, .val (.int v)] st H Q := w_st (i := 7) (p := isI) (show decode kb21 55 = .ok (.istore 7, 2) from by decide +kernel) rfl rfl rfl rfl rfl rfl
theorem m21_55g (h : okS l7) : M21 55 [l0, l1, l2, l3, l4, l5, l6, l7] ((.int v) :: st) H Q = M21 57 [l0, l1, l2, l3, l4, l5, l6, .val (.int v)] st H Q := by rcases h with rfl | ⟨z, rfl⟩ <;> first | exact m21_55u | exact m21_55i
theorem m21_57 : M21 57 [l0, l1, l2, l3, l4, l5, l6, .val (.int v)] st H Q = M21 59 [l0, l1, l2, l3, l4, l5, l6, .val (.int v)] (.int v :: st) H Q := w_x (show decode kb21 57 = .ok (.iload 7, 2) from by decide +kernel) rfl
theorem m21_59 : M21 59 ls (.int x :: st) H Q = if 0 < x then M21 62 ls st H Q else M21 83 ls st H Q := w_ifN (show decode kb21 59 = .ok (.ifCond .le 24, 3) from by decide +kernel) (z_le x) rfl
theorem m21_62 : M21 62 [.val (.ref r), l1, l2, l3, l4, l5, l6, l7] st H Q = M21 63 [.val (.ref r), l1, l2, l3, l4, l5, l6, l7] (.ref r :: st) H Q := w_x (show decode kb21 62 = .ok (.aload_n 0, 1) from by decide +kernel) rfl
theorem m21_63 : M21 63 ls (.ref (b + 1) :: st) (put (b + 1) pre s A post) Q = M21 66 ls (.ref ((b + 1) + 12) :: st) (put (b + 1) pre s A post) Q := w_get (show decode kb21 63 = .ok (.getfield 43, 3) from by decide +kernel) gf_43 put_o rfl
theorem m21_66 : M21 66 [l0, l1, l2, l3, l4, l5, .val (.int v), l7] st H Q = M21 68 [l0, l1, l2, l3, l4, l5, .val (.int v), l7] (.int v :: st) H Q := w_x (show decode kb21 66 = .ok (.iload 6, 2) from by decide +kernel) rfl
theorem m21_68  : M21 68 ls (.int j :: .ref ((b + 1) + 12) :: st) (put (b + 1) pre s A post) Q = (inB j (A 11) ∧ M21 69 ls (.int (getA (A 11) j) :: st) (put (b + 1) pre s A post) Q) := w_ild (show decode kb21 68 = .ok (.iaload, 1) from by decide +kernel) rfl put_a11
theorem m21_69 : M21 69 [l0, l1, l2, l3, .val (.int v), l5, l6, l7] st H Q = M21 71 [l0, l1, l2, l3, .val (.int v), l5, l6, l7] (.int v :: st) H Q := w_x (show decode kb21 69 = .ok (.iload 4, 2) from by decide +kernel) rfl
theorem m21_71 : M21 71 ls (.int y :: .int x :: st) H Q = if x < y then M21 83 ls st H Q else M21 74 ls st H Q := w_icmp (show decode kb21 71 = .ok (.if_icmp .lt 12, 3) from by decide +kernel) (i_lt x y) rfl
theorem m21_74 : M21 74 [l0, l1, l2, l3, l4, l5, l6, .val (.int v)] st H Q = M21 76 [l0, l1, l2, l3, l4, l5, l6, .val (.int v)] (.int v :: st) H Q := w_x (show decode kb21 74 = .ok (.iload 7, 2) from by decide +kernel) rfl
theorem m21_76 : M21 76 [l0, l1, l2, .val (.int v), l4, l5, l6, l7] st H Q = M21 77 [l0, l1, l2, .val (.int v), l4, l5, l6, l7] (.int v :: st) H Q := w_x (show decode kb21 76 = .ok (.iload_n 3, 1) from by decide +kernel) rfl
theorem m21_77 : M21 77 ls (.int y :: .int x :: st) H Q = if y < x then M21 80 ls st H Q else M21 83 ls st H Q := w_icmpN (show decode kb21 77 = .ok (.if_icmp .le 6, 3) from by decide +kernel) (i_le x y) rfl
theorem m21_80 : M21 80 [l0, l1, l2, l3, l4, l5, l6, .val (.int v)] st H Q = M21 82 [l0, l1, l2, l3, l4, l5, l6, .val (.int v)] (.int v :: st) H Q := w_x (show decode kb21 80 = .ok (.iload 7, 2) from by decide +kernel) rfl
theorem m21_82i : M21 82 [l0, l1, l2, .val (.int z), l4, l5, l6, l7] ((.int v) :: st) H Q = M21 83 [l0, l1, l2, .val (.int v), l4, l5, l6, l7] st H Q := w_st (i := 3) (p := isI) (show decode kb21 82 = .ok (.istore_n 3, 1) from by decide +kernel) rfl rfl rfl rfl rfl rfl
theorem m21_83 : M21 83 [l0, l1, l2, l3, l4, l5, .val (.int v), l7] st H Q = M21 86 [l0, l1, l2, l3, l4, l5, .val (.int (v + 1)), l7] st H Q := w_iinc (show decode kb21 83 = .ok (.iinc 6 1, 3) from by decide +kernel) rfl (by decide) rfl
theorem m21_86 : M21 86 ls st H Q = M21 37 ls st H Q := w_x (show decode kb21 86 = .ok (.goto (-49), 3) from by decide +kernel) rfl
theorem m21_89 : M21 89 [l0, l1, l2, l3, l4, .val (.int v), l6, l7] st H Q = M21 92 [l0, l1, l2, l3, l4, .val (.int (v + 1)), l6, l7] st H Q := w_iinc (show decode kb21 89 = .ok (.iinc 5 1, 3) from by decide +kernel) rfl (by decide) rfl
theorem m21_92 : M21 92 ls st H Q = M21 13 ls st H Q := w_x (show decode kb21 92 = .ok (.goto (-79), 3) from by decide +kernel) rfl
theorem m21_95 : M21 95 [l0, l1, l2, .val (.int v), l4, l5, l6, l7] st H Q = M21 96 [l0, l1, l2, .val (.int v), l4, l5, l6, l7] (.int v :: st) H Q := w_x (show decode kb21 95 = .ok (.iload_n 3, 1) from by decide +kernel) rfl
theorem m21_96 : M21 96 ls (.int z :: st) H Q = Q (some (.int z)) H := w_iret (show decode kb21 96 = .ok (.ireturn, 1) from by decide +kernel) rfl
theorem m22_0 : M22 0 [.val (.ref r), l1, l2, l3, l4, l5, l6, l7] st H Q = M22 1 [.val (.ref r), l1, l2, l3, l4, l5, l6, l7] (.ref r :: st) H Q := w_x (show decode kb22 0 = .ok (.aload_n 0, 1) from by decide +kernel) rfl
theorem m22_1 : M22 1 ls (.ref (b + 1) :: st) (put (b + 1) pre s A post) Q = M22 4 ls (.ref ((b + 1) + 3) :: st) (put (b + 1) pre s A post) Q := w_get (show decode kb22 1 = .ok (.getfield 16, 3) from by decide +kernel) gf_16 put_o rfl
theorem m22_4 : M22 4 [l0, .val (.int v), l2, l3, l4, l5, l6, l7] st H Q = M22 5 [l0, .val (.int v), l2, l3, l4, l5, l6, l7] (.int v :: st) H Q := w_x (show decode kb22 4 = .ok (.iload_n 1, 1) from by decide +kernel) rfl
theorem m22_5  : M22 5 ls (.int j :: .ref ((b + 1) + 3) :: st) (put (b + 1) pre s A post) Q = (inB j (A 2) ∧ M22 6 ls (.int (getA (A 2) j) :: st) (put (b + 1) pre s A post) Q) := w_ild (show decode kb22 5 = .ok (.iaload, 1) from by decide +kernel) rfl put_a2
theorem m22_6 : M22 6 [l0, l1, l2, .val (.int v), l4, l5, l6, l7] st H Q = M22 7 [l0, l1, l2, .val (.int v), l4, l5, l6, l7] (.int v :: st) H Q := w_x (show decode kb22 6 = .ok (.iload_n 3, 1) from by decide +kernel) rfl
theorem m22_7 : M22 7 ls (.int y :: .int x :: st) H Q = M22 8 ls (.int (x + y) :: st) H Q := w_x (show decode kb22 7 = .ok (.iadd, 1) from by decide +kernel) rfl
theorem m22_8u : M22 8 [l0, l1, l2, l3, .unset, l5, l6, l7] ((.int v) :: st) H Q = M22 10 [l0, l1, l2, l3, .val (.int v), l5, l6, l7] st H Q := w_st (i := 4) (p := isI) (show decode kb22 8 = .ok (.istore 4, 2) from by decide +kernel) rfl rfl rfl rfl rfl rfl
theorem m22_10 : M22 10 [l0, l1, l2, l3, .val (.int v), l5, l6, l7] st H Q = M22 12 [l0, l1, l2, l3, .val (.int v), l5, l6, l7] (.int v :: st) H Q := w_x (show decode kb22 10 = .ok (.iload 4, 2) from by decide +kernel) rfl
theorem m22_12u : M22 12 [l0, l1, l2, l3, l4, .unset, l6, l7] ((.int v) :: st) H Q = M22 14 [l0, l1, l2, l3, l4, .val (.int v), l6, l7] st H Q := w_st (i := 5) (p := isI) (show decode kb22 12 = .ok (.istore 5, 2) from by decide +kernel) rfl rfl rfl rfl rfl rfl
theorem m22_14 : M22 14 ls st H Q = M22 15 ls (.int 0 :: st) H Q := w_con (show decode kb22 14 = .ok (.iconst 0, 1) from by decide +kernel) rfl (by decide)
theorem m22_15u : M22 15 [l0, l1, l2, l3, l4, l5, .unset, l7] ((.int v) :: st) H Q = M22 17 [l0, l1, l2, l3, l4, l5, .val (.int v), l7] st H Q := w_st (i := 6) (p := isI) (show decode kb22 15 = .ok (.istore 6, 2) from by decide +kernel) rfl rfl rfl rfl rfl rfl
theorem m22_17 : M22 17 [l0, l1, l2, l3, l4, l5, .val (.int v), l7] st H Q = M22 19 [l0, l1, l2, l3, l4, l5, .val (.int v), l7] (.int v :: st) H Q := w_x (show decode kb22 17 = .ok (.iload 6, 2) from by decide +kernel) rfl
theorem m22_19 : M22 19 ls st H Q = M22 22 ls (.int 842 :: st) H Q := w_con (show decode kb22 19 = .ok (.sipush 842, 3) from by decide +kernel) rfl (by decide)
theorem m22_22 : M22 22 ls (.int y :: .int x :: st) H Q = if x < y then M22 25 ls st H Q else M22 71 ls st H Q := w_icmpN (show decode kb22 22 = .ok (.if_icmp .ge 49, 3) from by decide +kernel) (i_ge x y) rfl
theorem m22_25 : M22 25 [l0, l1, l2, l3, l4, .val (.int v), l6, l7] st H Q = M22 27 [l0, l1, l2, l3, l4, .val (.int v), l6, l7] (.int v :: st) H Q := w_x (show decode kb22 25 = .ok (.iload 5, 2) from by decide +kernel) rfl
theorem m22_27 : M22 27 [.val (.ref r), l1, l2, l3, l4, l5, l6, l7] st H Q = M22 28 [.val (.ref r), l1, l2, l3, l4, l5, l6, l7] (.ref r :: st) H Q := w_x (show decode kb22 27 = .ok (.aload_n 0, 1) from by decide +kernel) rfl
theorem m22_28 : M22 28 ls (.ref (b + 1) :: st) (put (b + 1) pre s A post) Q = M22 31 ls (.ref ((b + 1) + 2) :: st) (put (b + 1) pre s A post) Q := w_get (show decode kb22 28 = .ok (.getfield 13, 3) from by decide +kernel) gf_13 put_o rfl
theorem m22_31 : M22 31 [l0, .val (.int v), l2, l3, l4, l5, l6, l7] st H Q = M22 32 [l0, .val (.int v), l2, l3, l4, l5, l6, l7] (.int v :: st) H Q := w_x (show decode kb22 31 = .ok (.iload_n 1, 1) from by decide +kernel) rfl
theorem m22_32  : M22 32 ls (.int j :: .ref ((b + 1) + 2) :: st) (put (b + 1) pre s A post) Q = (inB j (A 1) ∧ M22 33 ls (.int (getA (A 1) j) :: st) (put (b + 1) pre s A post) Q) := w_ild (show decode kb22 32 = .ok (.iaload, 1) from by decide +kernel) rfl put_a1
theorem m22_33 : M22 33 ls (.int y :: .int x :: st) H Q = if y < x then M22 36 ls st H Q else M22 38 ls st H Q := w_icmpN (show decode kb22 33 = .ok (.if_icmp .le 5, 3) from by decide +kernel) (i_le x y) rfl
theorem m22_36 : M22 36 ls st H Q = M22 37 ls (.int (-1) :: st) H Q := w_con (show decode kb22 36 = .ok (.iconst (-1), 1) from by decide +kernel) rfl (by decide)
theorem m22_37 : M22 37 ls (.int z :: st) H Q = Q (some (.int z)) H := w_iret (show decode kb22 37 = .ok (.ireturn, 1) from by decide +kernel) rfl
theorem m22_38 : M22 38 [l0, l1, l2, l3, .val (.int v), l5, l6, l7] st H Q = M22 40 [l0, l1, l2, l3, .val (.int v), l5, l6, l7] (.int v :: st) H Q := w_x (show decode kb22 38 = .ok (.iload 4, 2) from by decide +kernel) rfl
theorem m22_40 : M22 40 [.val (.ref r), l1, l2, l3, l4, l5, l6, l7] st H Q = M22 41 [.val (.ref r), l1, l2, l3, l4, l5, l6, l7] (.ref r :: st) H Q := w_x (show decode kb22 40 = .ok (.aload_n 0, 1) from by decide +kernel) rfl
theorem m22_41 : M22 41 [l0, .val (.int v), l2, l3, l4, l5, l6, l7] st H Q = M22 42 [l0, .val (.int v), l2, l3, l4, l5, l6, l7] (.int v :: st) H Q := w_x (show decode kb22 41 = .ok (.iload_n 1, 1) from by decide +kernel) rfl
theorem m22_42 : M22 42 [l0, l1, .val (.int v), l3, l4, l5, l6, l7] st H Q = M22 43 [l0, l1, .val (.int v), l3, l4, l5, l6, l7] (.int v :: st) H Q := w_x (show decode kb22 42 = .ok (.iload_n 2, 1) from by decide +kernel) rfl
theorem m22_43 : M22 43 [l0, l1, l2, l3, l4, .val (.int v), l6, l7] st H Q = M22 45 [l0, l1, l2, l3, l4, .val (.int v), l6, l7] (.int v :: st) H Q := w_x (show decode kb22 43 = .ok (.iload 5, 2) from by decide +kernel) rfl
theorem cr22_139 : vR tables_1 dn y22 139 = some (true, y23, prog_1_method_15_code, 8, (some .int), 3, 1) := pR_of (cR_of (by decide +kernel) rc_23 dn_23 dn_22 (sig := ⟨[.int, .int, .int], some .int⟩) (by decide +kernel) (by decide +kernel) rfl rfl) (by decide +kernel) (by decide +kernel)
theorem m22_45 (a0 : Int32) (a1 : Int32) (a2 : Int32) (u0 : Int32) : M22 45 ls [.int a2, .int a1, .int a0, .ref (b + 1), .int u0] (put (b + 1) pre s A post) Q = M23 0 [.val (.ref (b + 1)), .val (.int a0), .val (.int a1), .val (.int a2), .unset, .unset, .unset, .unset] [] (put (b + 1) pre s A post) (fun v H1 => M22 48 ls (v.toList ++ [.int u0]) H1 Q) := w_virt (as := [.int a2, .int a1, .int a0]) (rest := [.int u0]) (a := (b + 1)) (show decode kb22 45 = .ok (.invokevirtual 139, 3) from by decide +kernel) cr22_139 put_o rfl rfl (Nat.le_of_ble_eq_true rfl) (by show 4 ≤ 8; omega) rfl
theorem m22_48 : M22 48 ls (.int y :: .int x :: st) H Q = M22 49 ls (.int (x + y) :: st) H Q := w_x (show decode kb22 48 = .ok (.iadd, 1) from by decide +kernel) rfl
theorem m22_49u : M22 49 [l0, l1, l2, l3, l4, l5, l6, .unset] ((.int v) :: st) H Q = M22 51 [l0, l1, l2, l3, l4, l5, l6, .val (.int v)] st H Q := w_st (i := 7) (p := isI) (show decode kb22 49 = .ok (.istore 7, 2) from by decide +kernel) rfl rfl rfl rfl rfl rfl
theorem m22_49i : M22 49 [l0, l1, l2, l3, l4, l5, l6, .val (.int z)] ((.int v) :: st) H Q = M22 51 [l0, l1, l2, l3, l4, l5, l6, .val (.int v)] st H Q := w_st (i := 7) (p := isI) (show decode kb22 49 = .ok (.istore 7, 2) from by decide +kernel) rfl rfl rfl rfl rfl rfl
theorem m22_49r : M22 49 [l0, l1, l2, l3, l4, l5, l6, .val (.ref q)] ((.int v) :: st) H Q = M22 51 [l0, l1, l2, l3, l4, l5, l6, .val (.int v)] st H Q := w_st (i := 7) (p := isI) (show decode kb22 49 = .ok (.istore 7, 2) from by decide +kernel) rfl rfl rfl rfl rfl rfl
theorem m22_49g (h : okS l7) : M22 49 [l0, l1, l2, l3, l4, l5, l6, l7] ((.int v) :: st) H Q = M22 51 [l0, l1, l2, l3, l4, l5, l6, .val (.int v)] st H Q := by rcases h with rfl | ⟨z, rfl⟩ <;> first | exact m22_49u | exact m22_49i
theorem m22_51 : M22 51 [l0, l1, l2, l3, l4, l5, l6, .val (.int v)] st H Q = M22 53 [l0, l1, l2, l3, l4, l5, l6, .val (.int v)] (.int v :: st) H Q := w_x (show decode kb22 51 = .ok (.iload 7, 2) from by decide +kernel) rfl
theorem m22_53 : M22 53 [l0, l1, l2, l3, l4, .val (.int v), l6, l7] st H Q = M22 55 [l0, l1, l2, l3, l4, .val (.int v), l6, l7] (.int v :: st) H Q := w_x (show decode kb22 53 = .ok (.iload 5, 2) from by decide +kernel) rfl
theorem m22_55 : M22 55 ls (.int y :: .int x :: st) H Q = if x = y then M22 58 ls st H Q else M22 61 ls st H Q := w_icmpN (show decode kb22 55 = .ok (.if_icmp .ne 6, 3) from by decide +kernel) (i_ne x y) rfl
theorem m22_58 : M22 58 [l0, l1, l2, l3, l4, .val (.int v), l6, l7] st H Q = M22 60 [l0, l1, l2, l3, l4, .val (.int v), l6, l7] (.int v :: st) H Q := w_x (show decode kb22 58 = .ok (.iload 5, 2) from by decide +kernel) rfl
theorem m22_60 : M22 60 ls (.int z :: st) H Q = Q (some (.int z)) H := w_iret (show decode kb22 60 = .ok (.ireturn, 1) from by decide +kernel) rfl
theorem m22_61 : M22 61 [l0, l1, l2, l3, l4, l5, l6, .val (.int v)] st H Q = M22 63 [l0, l1, l2, l3, l4, l5, l6, .val (.int v)] (.int v :: st) H Q := w_x (show decode kb22 61 = .ok (.iload 7, 2) from by decide +kernel) rfl
theorem m22_63i : M22 63 [l0, l1, l2, l3, l4, .val (.int z), l6, l7] ((.int v) :: st) H Q = M22 65 [l0, l1, l2, l3, l4, .val (.int v), l6, l7] st H Q := w_st (i := 5) (p := isI) (show decode kb22 63 = .ok (.istore 5, 2) from by decide +kernel) rfl rfl rfl rfl rfl rfl
theorem m22_65 : M22 65 [l0, l1, l2, l3, l4, l5, .val (.int v), l7] st H Q = M22 68 [l0, l1, l2, l3, l4, l5, .val (.int (v + 1)), l7] st H Q := w_iinc (show decode kb22 65 = .ok (.iinc 6 1, 3) from by decide +kernel) rfl (by decide) rfl
theorem m22_68 : M22 68 ls st H Q = M22 17 ls st H Q := w_x (show decode kb22 68 = .ok (.goto (-51), 3) from by decide +kernel) rfl
theorem m22_71 : M22 71 ls st H Q = M22 72 ls (.int (-1) :: st) H Q := w_con (show decode kb22 71 = .ok (.iconst (-1), 1) from by decide +kernel) rfl (by decide)
theorem m22_72 : M22 72 ls (.int z :: st) H Q = Q (some (.int z)) H := w_iret (show decode kb22 72 = .ok (.ireturn, 1) from by decide +kernel) rfl
theorem m23_0 : M23 0 ls st H Q = M23 1 ls (.int 0 :: st) H Q := w_con (show decode kb23 0 = .ok (.iconst 0, 1) from by decide +kernel) rfl (by decide)
theorem m23_1u : M23 1 [l0, l1, l2, l3, .unset, l5, l6, l7] ((.int v) :: st) H Q = M23 3 [l0, l1, l2, l3, .val (.int v), l5, l6, l7] st H Q := w_st (i := 4) (p := isI) (show decode kb23 1 = .ok (.istore 4, 2) from by decide +kernel) rfl rfl rfl rfl rfl rfl
theorem m23_3 : M23 3 [.val (.ref r), l1, l2, l3, l4, l5, l6, l7] st H Q = M23 4 [.val (.ref r), l1, l2, l3, l4, l5, l6, l7] (.ref r :: st) H Q := w_x (show decode kb23 3 = .ok (.aload_n 0, 1) from by decide +kernel) rfl
theorem m23_4 : M23 4 ls (.ref (b + 1) :: st) (put (b + 1) pre s A post) Q = M23 7 ls (.ref ((b + 1) + 4) :: st) (put (b + 1) pre s A post) Q := w_get (show decode kb23 4 = .ok (.getfield 19, 3) from by decide +kernel) gf_19 put_o rfl
theorem m23_7 : M23 7 [l0, .val (.int v), l2, l3, l4, l5, l6, l7] st H Q = M23 8 [l0, .val (.int v), l2, l3, l4, l5, l6, l7] (.int v :: st) H Q := w_x (show decode kb23 7 = .ok (.iload_n 1, 1) from by decide +kernel) rfl
theorem m23_8  : M23 8 ls (.int j :: .ref ((b + 1) + 4) :: st) (put (b + 1) pre s A post) Q = (inB j (A 3) ∧ M23 9 ls (.int (getA (A 3) j) :: st) (put (b + 1) pre s A post) Q) := w_ild (show decode kb23 8 = .ok (.iaload, 1) from by decide +kernel) rfl put_a3
theorem m23_9u : M23 9 [l0, l1, l2, l3, l4, .unset, l6, l7] ((.int v) :: st) H Q = M23 11 [l0, l1, l2, l3, l4, .val (.int v), l6, l7] st H Q := w_st (i := 5) (p := isI) (show decode kb23 9 = .ok (.istore 5, 2) from by decide +kernel) rfl rfl rfl rfl rfl rfl
theorem m23_11 : M23 11 ls st H Q = M23 12 ls (.int 0 :: st) H Q := w_con (show decode kb23 11 = .ok (.iconst 0, 1) from by decide +kernel) rfl (by decide)
theorem m23_12u : M23 12 [l0, l1, l2, l3, l4, l5, .unset, l7] ((.int v) :: st) H Q = M23 14 [l0, l1, l2, l3, l4, l5, .val (.int v), l7] st H Q := w_st (i := 6) (p := isI) (show decode kb23 12 = .ok (.istore 6, 2) from by decide +kernel) rfl rfl rfl rfl rfl rfl
theorem m23_14 : M23 14 [l0, l1, l2, l3, l4, l5, .val (.int v), l7] st H Q = M23 16 [l0, l1, l2, l3, l4, l5, .val (.int v), l7] (.int v :: st) H Q := w_x (show decode kb23 14 = .ok (.iload 6, 2) from by decide +kernel) rfl
theorem m23_16 : M23 16 [l0, l1, .val (.int v), l3, l4, l5, l6, l7] st H Q = M23 17 [l0, l1, .val (.int v), l3, l4, l5, l6, l7] (.int v :: st) H Q := w_x (show decode kb23 16 = .ok (.iload_n 2, 1) from by decide +kernel) rfl
theorem m23_17 : M23 17 ls (.int y :: .int x :: st) H Q = if x < y then M23 20 ls st H Q else M23 74 ls st H Q := w_icmpN (show decode kb23 17 = .ok (.if_icmp .ge 57, 3) from by decide +kernel) (i_ge x y) rfl
theorem m23_20 : M23 20 [.val (.ref r), l1, l2, l3, l4, l5, l6, l7] st H Q = M23 21 [.val (.ref r), l1, l2, l3, l4, l5, l6, l7] (.ref r :: st) H Q := w_x (show decode kb23 20 = .ok (.aload_n 0, 1) from by decide +kernel) rfl
theorem m23_21 : M23 21 ls (.ref (b + 1) :: st) (put (b + 1) pre s A post) Q = M23 24 ls (.ref ((b + 1) + 1) :: st) (put (b + 1) pre s A post) Q := w_get (show decode kb23 21 = .ok (.getfield 7, 3) from by decide +kernel) gf_7 put_o rfl
theorem m23_24 : M23 24 [l0, l1, l2, l3, l4, l5, .val (.int v), l7] st H Q = M23 26 [l0, l1, l2, l3, l4, l5, .val (.int v), l7] (.int v :: st) H Q := w_x (show decode kb23 24 = .ok (.iload 6, 2) from by decide +kernel) rfl
theorem m23_26  : M23 26 ls (.int j :: .ref ((b + 1) + 1) :: st) (put (b + 1) pre s A post) Q = (inB j (A 0) ∧ M23 27 ls (.int (getA (A 0) j) :: st) (put (b + 1) pre s A post) Q) := w_ild (show decode kb23 26 = .ok (.iaload, 1) from by decide +kernel) rfl put_a0
theorem m23_27u : M23 27 [l0, l1, l2, l3, l4, l5, l6, .unset] ((.int v) :: st) H Q = M23 29 [l0, l1, l2, l3, l4, l5, l6, .val (.int v)] st H Q := w_st (i := 7) (p := isI) (show decode kb23 27 = .ok (.istore 7, 2) from by decide +kernel) rfl rfl rfl rfl rfl rfl
theorem m23_27i : M23 27 [l0, l1, l2, l3, l4, l5, l6, .val (.int z)] ((.int v) :: st) H Q = M23 29 [l0, l1, l2, l3, l4, l5, l6, .val (.int v)] st H Q := w_st (i := 7) (p := isI) (show decode kb23 27 = .ok (.istore 7, 2) from by decide +kernel) rfl rfl rfl rfl rfl rfl
theorem m23_27r : M23 27 [l0, l1, l2, l3, l4, l5, l6, .val (.ref q)] ((.int v) :: st) H Q = M23 29 [l0, l1, l2, l3, l4, l5, l6, .val (.int v)] st H Q := w_st (i := 7) (p := isI) (show decode kb23 27 = .ok (.istore 7, 2) from by decide +kernel) rfl rfl rfl rfl rfl rfl
theorem m23_27g (h : okS l7) : M23 27 [l0, l1, l2, l3, l4, l5, l6, l7] ((.int v) :: st) H Q = M23 29 [l0, l1, l2, l3, l4, l5, l6, .val (.int v)] st H Q := by rcases h with rfl | ⟨z, rfl⟩ <;> first | exact m23_27u | exact m23_27i
theorem m23_29 : M23 29 [.val (.ref r), l1, l2, l3, l4, l5, l6, l7] st H Q = M23 30 [.val (.ref r), l1, l2, l3, l4, l5, l6, l7] (.ref r :: st) H Q := w_x (show decode kb23 29 = .ok (.aload_n 0, 1) from by decide +kernel) rfl
theorem m23_30 : M23 30 ls (.ref (b + 1) :: st) (put (b + 1) pre s A post) Q = M23 33 ls (.ref ((b + 1) + 4) :: st) (put (b + 1) pre s A post) Q := w_get (show decode kb23 30 = .ok (.getfield 19, 3) from by decide +kernel) gf_19 put_o rfl
theorem m23_33 : M23 33 [l0, l1, l2, l3, l4, l5, .val (.int v), l7] st H Q = M23 35 [l0, l1, l2, l3, l4, l5, .val (.int v), l7] (.int v :: st) H Q := w_x (show decode kb23 33 = .ok (.iload 6, 2) from by decide +kernel) rfl
theorem m23_35  : M23 35 ls (.int j :: .ref ((b + 1) + 4) :: st) (put (b + 1) pre s A post) Q = (inB j (A 3) ∧ M23 36 ls (.int (getA (A 3) j) :: st) (put (b + 1) pre s A post) Q) := w_ild (show decode kb23 35 = .ok (.iaload, 1) from by decide +kernel) rfl put_a3
theorem m23_36 : M23 36 [l0, l1, l2, l3, l4, .val (.int v), l6, l7] st H Q = M23 38 [l0, l1, l2, l3, l4, .val (.int v), l6, l7] (.int v :: st) H Q := w_x (show decode kb23 36 = .ok (.iload 5, 2) from by decide +kernel) rfl
theorem m23_38 : M23 38 ls (.int y :: .int x :: st) H Q = if y < x then M23 41 ls st H Q else M23 68 ls st H Q := w_icmpN (show decode kb23 38 = .ok (.if_icmp .le 30, 3) from by decide +kernel) (i_le x y) rfl
theorem m23_41 : M23 41 [l0, l1, l2, l3, l4, l5, l6, .val (.int v)] st H Q = M23 43 [l0, l1, l2, l3, l4, l5, l6, .val (.int v)] (.int v :: st) H Q := w_x (show decode kb23 41 = .ok (.iload 7, 2) from by decide +kernel) rfl
theorem m23_43 : M23 43 ls (.int x :: st) H Q = if 0 < x then M23 46 ls st H Q else M23 68 ls st H Q := w_ifN (show decode kb23 43 = .ok (.ifCond .le 25, 3) from by decide +kernel) (z_le x) rfl
theorem m23_46 : M23 46 [l0, l1, l2, l3, .val (.int v), l5, l6, l7] st H Q = M23 48 [l0, l1, l2, l3, .val (.int v), l5, l6, l7] (.int v :: st) H Q := w_x (show decode kb23 46 = .ok (.iload 4, 2) from by decide +kernel) rfl
theorem m23_48 : M23 48 [l0, l1, l2, .val (.int v), l4, l5, l6, l7] st H Q = M23 49 [l0, l1, l2, .val (.int v), l4, l5, l6, l7] (.int v :: st) H Q := w_x (show decode kb23 48 = .ok (.iload_n 3, 1) from by decide +kernel) rfl
theorem m23_49 : M23 49 [l0, l1, l2, l3, l4, l5, l6, .val (.int v)] st H Q = M23 51 [l0, l1, l2, l3, l4, l5, l6, .val (.int v)] (.int v :: st) H Q := w_x (show decode kb23 49 = .ok (.iload 7, 2) from by decide +kernel) rfl
theorem m23_51 : M23 51 ls (.int y :: .int x :: st) H Q = M23 52 ls (.int (x + y) :: st) H Q := w_x (show decode kb23 51 = .ok (.iadd, 1) from by decide +kernel) rfl
theorem m23_52 : M23 52 ls st H Q = M23 53 ls (.int 1 :: st) H Q := w_con (show decode kb23 52 = .ok (.iconst 1, 1) from by decide +kernel) rfl (by decide)
theorem m23_53 : M23 53 ls (.int y :: .int x :: st) H Q = M23 54 ls (.int (x - y) :: st) H Q := w_x (show decode kb23 53 = .ok (.isub, 1) from by decide +kernel) rfl
theorem m23_54 : M23 54 [l0, l1, l2, l3, l4, l5, l6, .val (.int v)] st H Q = M23 56 [l0, l1, l2, l3, l4, l5, l6, .val (.int v)] (.int v :: st) H Q := w_x (show decode kb23 54 = .ok (.iload 7, 2) from by decide +kernel) rfl
theorem m23_56 : M23 56 ls (.int y :: .int x :: st) H Q = (y ≠ 0 ∧ M23 57 ls (.int (x / y) :: st) H Q) := w_div (f := fun x y => x / y) (show decode kb23 56 = .ok (.idiv, 1) from by decide +kernel) (fun _ => rfl) rfl rfl
theorem m23_57 : M23 57 [.val (.ref r), l1, l2, l3, l4, l5, l6, l7] st H Q = M23 58 [.val (.ref r), l1, l2, l3, l4, l5, l6, l7] (.ref r :: st) H Q := w_x (show decode kb23 57 = .ok (.aload_n 0, 1) from by decide +kernel) rfl
theorem m23_58 : M23 58 ls (.ref (b + 1) :: st) (put (b + 1) pre s A post) Q = M23 61 ls (.ref ((b + 1) + 3) :: st) (put (b + 1) pre s A post) Q := w_get (show decode kb23 58 = .ok (.getfield 16, 3) from by decide +kernel) gf_16 put_o rfl
theorem m23_61 : M23 61 [l0, l1, l2, l3, l4, l5, .val (.int v), l7] st H Q = M23 63 [l0, l1, l2, l3, l4, l5, .val (.int v), l7] (.int v :: st) H Q := w_x (show decode kb23 61 = .ok (.iload 6, 2) from by decide +kernel) rfl
theorem m23_63  : M23 63 ls (.int j :: .ref ((b + 1) + 3) :: st) (put (b + 1) pre s A post) Q = (inB j (A 2) ∧ M23 64 ls (.int (getA (A 2) j) :: st) (put (b + 1) pre s A post) Q) := w_ild (show decode kb23 63 = .ok (.iaload, 1) from by decide +kernel) rfl put_a2
theorem m23_64 : M23 64 ls (.int y :: .int x :: st) H Q = M23 65 ls (.int (x * y) :: st) H Q := w_x (show decode kb23 64 = .ok (.imul, 1) from by decide +kernel) rfl
theorem m23_65 : M23 65 ls (.int y :: .int x :: st) H Q = M23 66 ls (.int (x + y) :: st) H Q := w_x (show decode kb23 65 = .ok (.iadd, 1) from by decide +kernel) rfl
theorem m23_66i : M23 66 [l0, l1, l2, l3, .val (.int z), l5, l6, l7] ((.int v) :: st) H Q = M23 68 [l0, l1, l2, l3, .val (.int v), l5, l6, l7] st H Q := w_st (i := 4) (p := isI) (show decode kb23 66 = .ok (.istore 4, 2) from by decide +kernel) rfl rfl rfl rfl rfl rfl
theorem m23_68 : M23 68 [l0, l1, l2, l3, l4, l5, .val (.int v), l7] st H Q = M23 71 [l0, l1, l2, l3, l4, l5, .val (.int (v + 1)), l7] st H Q := w_iinc (show decode kb23 68 = .ok (.iinc 6 1, 3) from by decide +kernel) rfl (by decide) rfl
theorem m23_71 : M23 71 ls st H Q = M23 14 ls st H Q := w_x (show decode kb23 71 = .ok (.goto (-57), 3) from by decide +kernel) rfl
theorem m23_74 : M23 74 [l0, l1, l2, l3, .val (.int v), l5, l6, l7] st H Q = M23 76 [l0, l1, l2, l3, .val (.int v), l5, l6, l7] (.int v :: st) H Q := w_x (show decode kb23 74 = .ok (.iload 4, 2) from by decide +kernel) rfl
theorem m23_76 : M23 76 ls (.int z :: st) H Q = Q (some (.int z)) H := w_iret (show decode kb23 76 = .ok (.ireturn, 1) from by decide +kernel) rfl
theorem m24_0 : M24 0 ls st H Q = M24 1 ls (.int 0 :: st) H Q := w_con (show decode kb24 0 = .ok (.iconst 0, 1) from by decide +kernel) rfl (by decide)
theorem m24_1u : M24 1 [l0, l1, .unset] ((.int v) :: st) H Q = M24 2 [l0, l1, .val (.int v)] st H Q := w_st (i := 2) (p := isI) (show decode kb24 1 = .ok (.istore_n 2, 1) from by decide +kernel) rfl rfl rfl rfl rfl rfl
theorem m24_2 : M24 2 [l0, l1, .val (.int v)] st H Q = M24 3 [l0, l1, .val (.int v)] (.int v :: st) H Q := w_x (show decode kb24 2 = .ok (.iload_n 2, 1) from by decide +kernel) rfl
theorem m24_3 : M24 3 [l0, .val (.int v), l2] st H Q = M24 4 [l0, .val (.int v), l2] (.int v :: st) H Q := w_x (show decode kb24 3 = .ok (.iload_n 1, 1) from by decide +kernel) rfl
theorem m24_4 : M24 4 ls (.int y :: .int x :: st) H Q = if x < y then M24 7 ls st H Q else M24 37 ls st H Q := w_icmpN (show decode kb24 4 = .ok (.if_icmp .ge 33, 3) from by decide +kernel) (i_ge x y) rfl
theorem m24_7 : M24 7 [.val (.ref r), l1, l2] st H Q = M24 8 [.val (.ref r), l1, l2] (.ref r :: st) H Q := w_x (show decode kb24 7 = .ok (.aload_n 0, 1) from by decide +kernel) rfl
theorem m24_8 : M24 8 ls (.ref (b + 1) :: st) (put (b + 1) pre s A post) Q = M24 11 ls (.ref ((b + 1) + 7) :: st) (put (b + 1) pre s A post) Q := w_get (show decode kb24 8 = .ok (.getfield 28, 3) from by decide +kernel) gf_28 put_o rfl
theorem m24_11 : M24 11 [l0, l1, .val (.int v)] st H Q = M24 12 [l0, l1, .val (.int v)] (.int v :: st) H Q := w_x (show decode kb24 11 = .ok (.iload_n 2, 1) from by decide +kernel) rfl
theorem m24_12 : M24 12 [.val (.ref r), l1, l2] st H Q = M24 13 [.val (.ref r), l1, l2] (.ref r :: st) H Q := w_x (show decode kb24 12 = .ok (.aload_n 0, 1) from by decide +kernel) rfl
theorem m24_13 : M24 13 ls (.ref (b + 1) :: st) (put (b + 1) pre s A post) Q = M24 16 ls (.ref ((b + 1) + 14) :: st) (put (b + 1) pre s A post) Q := w_get (show decode kb24 13 = .ok (.getfield 49, 3) from by decide +kernel) gf_49 put_o rfl
theorem m24_16 : M24 16 [l0, l1, .val (.int v)] st H Q = M24 17 [l0, l1, .val (.int v)] (.int v :: st) H Q := w_x (show decode kb24 16 = .ok (.iload_n 2, 1) from by decide +kernel) rfl
theorem m24_17  : M24 17 ls (.int j :: .ref ((b + 1) + 14) :: st) (put (b + 1) pre s A post) Q = (inB j (A 13) ∧ M24 18 ls (.int (getA (A 13) j) :: st) (put (b + 1) pre s A post) Q) := w_ild (show decode kb24 17 = .ok (.iaload, 1) from by decide +kernel) rfl put_a13
theorem m24_18  : M24 18 ls (.int v :: .int j :: .ref ((b + 1) + 7) :: st) (put (b + 1) pre s A post) Q = (inB j (A 6) ∧ M24 19 ls st (put (b + 1) pre s (ou A 6 (setA (A 6) j v)) post) Q) := w_ist (show decode kb24 18 = .ok (.iastore, 1) from by decide +kernel) rfl put_a6 (by omega) rfl put_w6
theorem m24_19 : M24 19 [.val (.ref r), l1, l2] st H Q = M24 20 [.val (.ref r), l1, l2] (.ref r :: st) H Q := w_x (show decode kb24 19 = .ok (.aload_n 0, 1) from by decide +kernel) rfl
theorem m24_20 : M24 20 ls (.ref (b + 1) :: st) (put (b + 1) pre s A post) Q = M24 23 ls (.ref ((b + 1) + 8) :: st) (put (b + 1) pre s A post) Q := w_get (show decode kb24 20 = .ok (.getfield 31, 3) from by decide +kernel) gf_31 put_o rfl
theorem m24_23 : M24 23 [l0, l1, .val (.int v)] st H Q = M24 24 [l0, l1, .val (.int v)] (.int v :: st) H Q := w_x (show decode kb24 23 = .ok (.iload_n 2, 1) from by decide +kernel) rfl
theorem m24_24 : M24 24 [.val (.ref r), l1, l2] st H Q = M24 25 [.val (.ref r), l1, l2] (.ref r :: st) H Q := w_x (show decode kb24 24 = .ok (.aload_n 0, 1) from by decide +kernel) rfl
theorem m24_25 : M24 25 ls (.ref (b + 1) :: st) (put (b + 1) pre s A post) Q = M24 28 ls (.ref ((b + 1) + 13) :: st) (put (b + 1) pre s A post) Q := w_get (show decode kb24 25 = .ok (.getfield 46, 3) from by decide +kernel) gf_46 put_o rfl
theorem m24_28 : M24 28 [l0, l1, .val (.int v)] st H Q = M24 29 [l0, l1, .val (.int v)] (.int v :: st) H Q := w_x (show decode kb24 28 = .ok (.iload_n 2, 1) from by decide +kernel) rfl
theorem m24_29  : M24 29 ls (.int j :: .ref ((b + 1) + 13) :: st) (put (b + 1) pre s A post) Q = (inB j (A 12) ∧ M24 30 ls (.int (getA (A 12) j) :: st) (put (b + 1) pre s A post) Q) := w_ild (show decode kb24 29 = .ok (.iaload, 1) from by decide +kernel) rfl put_a12
theorem m24_30  : M24 30 ls (.int v :: .int j :: .ref ((b + 1) + 8) :: st) (put (b + 1) pre s A post) Q = (inB j (A 7) ∧ M24 31 ls st (put (b + 1) pre s (ou A 7 (setA (A 7) j v)) post) Q) := w_ist (show decode kb24 30 = .ok (.iastore, 1) from by decide +kernel) rfl put_a7 (by omega) rfl put_w7
theorem m24_31 : M24 31 [l0, l1, .val (.int v)] st H Q = M24 34 [l0, l1, .val (.int (v + 1))] st H Q := w_iinc (show decode kb24 31 = .ok (.iinc 2 1, 3) from by decide +kernel) rfl (by decide) rfl
theorem m24_34 : M24 34 ls st H Q = M24 2 ls st H Q := w_x (show decode kb24 34 = .ok (.goto (-32), 3) from by decide +kernel) rfl
theorem m24_37 : M24 37 ls st H Q = M24 38 ls (.int 0 :: st) H Q := w_con (show decode kb24 37 = .ok (.iconst 0, 1) from by decide +kernel) rfl (by decide)
theorem m24_38i : M24 38 [l0, l1, .val (.int z)] ((.int v) :: st) H Q = M24 39 [l0, l1, .val (.int v)] st H Q := w_st (i := 2) (p := isI) (show decode kb24 38 = .ok (.istore_n 2, 1) from by decide +kernel) rfl rfl rfl rfl rfl rfl
theorem m24_39 : M24 39 [l0, l1, .val (.int v)] st H Q = M24 40 [l0, l1, .val (.int v)] (.int v :: st) H Q := w_x (show decode kb24 39 = .ok (.iload_n 2, 1) from by decide +kernel) rfl
theorem m24_40 : M24 40 ls st H Q = M24 41 ls (.int 4 :: st) H Q := w_con (show decode kb24 40 = .ok (.iconst 4, 1) from by decide +kernel) rfl (by decide)
theorem m24_41 : M24 41 ls (.int y :: .int x :: st) H Q = if x < y then M24 44 ls st H Q else M24 62 ls st H Q := w_icmpN (show decode kb24 41 = .ok (.if_icmp .ge 21, 3) from by decide +kernel) (i_ge x y) rfl
theorem m24_44 : M24 44 [.val (.ref r), l1, l2] st H Q = M24 45 [.val (.ref r), l1, l2] (.ref r :: st) H Q := w_x (show decode kb24 44 = .ok (.aload_n 0, 1) from by decide +kernel) rfl
theorem m24_45 : M24 45 ls (.ref (b + 1) :: st) (put (b + 1) pre s A post) Q = M24 48 ls (.ref ((b + 1) + 9) :: st) (put (b + 1) pre s A post) Q := w_get (show decode kb24 45 = .ok (.getfield 34, 3) from by decide +kernel) gf_34 put_o rfl
theorem m24_48 : M24 48 [l0, l1, .val (.int v)] st H Q = M24 49 [l0, l1, .val (.int v)] (.int v :: st) H Q := w_x (show decode kb24 48 = .ok (.iload_n 2, 1) from by decide +kernel) rfl
theorem m24_49 : M24 49 [.val (.ref r), l1, l2] st H Q = M24 50 [.val (.ref r), l1, l2] (.ref r :: st) H Q := w_x (show decode kb24 49 = .ok (.aload_n 0, 1) from by decide +kernel) rfl
theorem m24_50 : M24 50 ls (.ref (b + 1) :: st) (put (b + 1) pre s A post) Q = M24 53 ls (.ref ((b + 1) + 12) :: st) (put (b + 1) pre s A post) Q := w_get (show decode kb24 50 = .ok (.getfield 43, 3) from by decide +kernel) gf_43 put_o rfl
theorem m24_53 : M24 53 [l0, l1, .val (.int v)] st H Q = M24 54 [l0, l1, .val (.int v)] (.int v :: st) H Q := w_x (show decode kb24 53 = .ok (.iload_n 2, 1) from by decide +kernel) rfl
theorem m24_54  : M24 54 ls (.int j :: .ref ((b + 1) + 12) :: st) (put (b + 1) pre s A post) Q = (inB j (A 11) ∧ M24 55 ls (.int (getA (A 11) j) :: st) (put (b + 1) pre s A post) Q) := w_ild (show decode kb24 54 = .ok (.iaload, 1) from by decide +kernel) rfl put_a11
theorem m24_55  : M24 55 ls (.int v :: .int j :: .ref ((b + 1) + 9) :: st) (put (b + 1) pre s A post) Q = (inB j (A 8) ∧ M24 56 ls st (put (b + 1) pre s (ou A 8 (setA (A 8) j v)) post) Q) := w_ist (show decode kb24 55 = .ok (.iastore, 1) from by decide +kernel) rfl put_a8 (by omega) rfl put_w8
theorem m24_56 : M24 56 [l0, l1, .val (.int v)] st H Q = M24 59 [l0, l1, .val (.int (v + 1))] st H Q := w_iinc (show decode kb24 56 = .ok (.iinc 2 1, 3) from by decide +kernel) rfl (by decide) rfl
theorem m24_59 : M24 59 ls st H Q = M24 39 ls st H Q := w_x (show decode kb24 59 = .ok (.goto (-20), 3) from by decide +kernel) rfl
theorem m24_62 : M24 62 ls [] H Q = Q none H := w_vret (show decode kb24 62 = .ok (.return_, 1) from by decide +kernel) rfl
theorem m25_0 : M25 0 [l0, .val (.int v), l2, l3] st H Q = M25 1 [l0, .val (.int v), l2, l3] (.int v :: st) H Q := w_x (show decode kb25 0 = .ok (.iload_n 1, 1) from by decide +kernel) rfl
theorem m25_1u : M25 1 [l0, l1, .unset, l3] ((.int v) :: st) H Q = M25 2 [l0, l1, .val (.int v), l3] st H Q := w_st (i := 2) (p := isI) (show decode kb25 1 = .ok (.istore_n 2, 1) from by decide +kernel) rfl rfl rfl rfl rfl rfl
theorem m25_2 : M25 2 [l0, l1, .val (.int v), l3] st H Q = M25 3 [l0, l1, .val (.int v), l3] (.int v :: st) H Q := w_x (show decode kb25 2 = .ok (.iload_n 2, 1) from by decide +kernel) rfl
theorem m25_3 : M25 3 ls (.int x :: st) H Q = if x < 0 then M25 6 ls st H Q else M25 8 ls st H Q := w_ifN (show decode kb25 3 = .ok (.ifCond .ge 5, 3) from by decide +kernel) (z_ge x) rfl
theorem m25_6 : M25 6 ls st H Q = M25 7 ls (.int 0 :: st) H Q := w_con (show decode kb25 6 = .ok (.iconst 0, 1) from by decide +kernel) rfl (by decide)
theorem m25_7i : M25 7 [l0, l1, .val (.int z), l3] ((.int v) :: st) H Q = M25 8 [l0, l1, .val (.int v), l3] st H Q := w_st (i := 2) (p := isI) (show decode kb25 7 = .ok (.istore_n 2, 1) from by decide +kernel) rfl rfl rfl rfl rfl rfl
theorem m25_8 : M25 8 [l0, l1, .val (.int v), l3] st H Q = M25 9 [l0, l1, .val (.int v), l3] (.int v :: st) H Q := w_x (show decode kb25 8 = .ok (.iload_n 2, 1) from by decide +kernel) rfl
theorem m25_9 : M25 9 ls st H Q = M25 12 ls (.int 840 :: st) H Q := w_con (show decode kb25 9 = .ok (.sipush 840, 3) from by decide +kernel) rfl (by decide)
theorem m25_12 : M25 12 ls (.int y :: .int x :: st) H Q = if y < x then M25 15 ls st H Q else M25 19 ls st H Q := w_icmpN (show decode kb25 12 = .ok (.if_icmp .le 7, 3) from by decide +kernel) (i_le x y) rfl
theorem m25_15 : M25 15 ls st H Q = M25 18 ls (.int 840 :: st) H Q := w_con (show decode kb25 15 = .ok (.sipush 840, 3) from by decide +kernel) rfl (by decide)
theorem m25_18i : M25 18 [l0, l1, .val (.int z), l3] ((.int v) :: st) H Q = M25 19 [l0, l1, .val (.int v), l3] st H Q := w_st (i := 2) (p := isI) (show decode kb25 18 = .ok (.istore_n 2, 1) from by decide +kernel) rfl rfl rfl rfl rfl rfl
theorem m25_19 : M25 19 ls st H Q = M25 20 ls (.int 0 :: st) H Q := w_con (show decode kb25 19 = .ok (.iconst 0, 1) from by decide +kernel) rfl (by decide)
theorem m25_20u : M25 20 [l0, l1, l2, .unset] ((.int v) :: st) H Q = M25 21 [l0, l1, l2, .val (.int v)] st H Q := w_st (i := 3) (p := isI) (show decode kb25 20 = .ok (.istore_n 3, 1) from by decide +kernel) rfl rfl rfl rfl rfl rfl
theorem m25_21 : M25 21 ls st H Q = M25 22 ls (.int 0 :: st) H Q := w_con (show decode kb25 21 = .ok (.iconst 0, 1) from by decide +kernel) rfl (by decide)
theorem m25_22i : M25 22 [l0, l1, l2, .val (.int z)] ((.int v) :: st) H Q = M25 23 [l0, l1, l2, .val (.int v)] st H Q := w_st (i := 3) (p := isI) (show decode kb25 22 = .ok (.istore_n 3, 1) from by decide +kernel) rfl rfl rfl rfl rfl rfl
theorem m25_23 : M25 23 [l0, l1, l2, .val (.int v)] st H Q = M25 24 [l0, l1, l2, .val (.int v)] (.int v :: st) H Q := w_x (show decode kb25 23 = .ok (.iload_n 3, 1) from by decide +kernel) rfl
theorem m25_24 : M25 24 [l0, l1, .val (.int v), l3] st H Q = M25 25 [l0, l1, .val (.int v), l3] (.int v :: st) H Q := w_x (show decode kb25 24 = .ok (.iload_n 2, 1) from by decide +kernel) rfl
theorem m25_25 : M25 25 ls (.int y :: .int x :: st) H Q = if x < y then M25 28 ls st H Q else M25 52 ls st H Q := w_icmpN (show decode kb25 25 = .ok (.if_icmp .ge 27, 3) from by decide +kernel) (i_ge x y) rfl
theorem m25_28 : M25 28 [.val (.ref r), l1, l2, l3] st H Q = M25 29 [.val (.ref r), l1, l2, l3] (.ref r :: st) H Q := w_x (show decode kb25 28 = .ok (.aload_n 0, 1) from by decide +kernel) rfl
theorem m25_29 : M25 29 ls (.ref (b + 1) :: st) (put (b + 1) pre s A post) Q = M25 32 ls (.int (s 9) :: st) (put (b + 1) pre s A post) Q := w_get (show decode kb25 29 = .ok (.getfield 145, 3) from by decide +kernel) gf_145 put_o rfl
theorem m25_32 : M25 32 [.val (.ref r), l1, l2, l3] st H Q = M25 33 [.val (.ref r), l1, l2, l3] (.ref r :: st) H Q := w_x (show decode kb25 32 = .ok (.aload_n 0, 1) from by decide +kernel) rfl
theorem m25_33 : M25 33 ls (.ref (b + 1) :: st) (put (b + 1) pre s A post) Q = M25 36 ls (.int (s 2) :: st) (put (b + 1) pre s A post) Q := w_get (show decode kb25 33 = .ok (.getfield 85, 3) from by decide +kernel) gf_85 put_o rfl
theorem m25_36 : M25 36 ls (.int y :: .int x :: st) H Q = if x < y then M25 42 ls st H Q else M25 39 ls st H Q := w_icmp (show decode kb25 36 = .ok (.if_icmp .lt 6, 3) from by decide +kernel) (i_lt x y) rfl
theorem m25_39 : M25 39 ls st H Q = M25 52 ls st H Q := w_x (show decode kb25 39 = .ok (.goto 13, 3) from by decide +kernel) rfl
theorem m25_42 : M25 42 [.val (.ref r), l1, l2, l3] st H Q = M25 43 [.val (.ref r), l1, l2, l3] (.ref r :: st) H Q := w_x (show decode kb25 42 = .ok (.aload_n 0, 1) from by decide +kernel) rfl
theorem cr25_151 : vR tables_1 dn y25 151 = some (true, y26, prog_1_method_25_code, 2, none, 0, 0) := pR_of (cR_of (by decide +kernel) rc_26 dn_26 dn_25 (sig := ⟨[], none⟩) (by decide +kernel) (by decide +kernel) rfl rfl) (by decide +kernel) (by decide +kernel)
theorem m25_43 : M25 43 ls [.ref (b + 1)] (put (b + 1) pre s A post) Q = M26 0 [.val (.ref (b + 1)), .unset] [] (put (b + 1) pre s A post) (fun v H1 => M25 46 ls (v.toList ++ []) H1 Q) := w_virt (as := []) (rest := []) (a := (b + 1)) (show decode kb25 43 = .ok (.invokevirtual 151, 3) from by decide +kernel) cr25_151 put_o rfl rfl (Nat.le_of_ble_eq_true rfl) (by show 1 ≤ 2; omega) rfl
theorem m25_46 : M25 46 [l0, l1, l2, .val (.int v)] st H Q = M25 49 [l0, l1, l2, .val (.int (v + 1))] st H Q := w_iinc (show decode kb25 46 = .ok (.iinc 3 1, 3) from by decide +kernel) rfl (by decide) rfl
theorem m25_49 : M25 49 ls st H Q = M25 23 ls st H Q := w_x (show decode kb25 49 = .ok (.goto (-26), 3) from by decide +kernel) rfl
theorem m25_52 : M25 52 [l0, l1, l2, .val (.int v)] st H Q = M25 53 [l0, l1, l2, .val (.int v)] (.int v :: st) H Q := w_x (show decode kb25 52 = .ok (.iload_n 3, 1) from by decide +kernel) rfl
theorem m25_53 : M25 53 ls (.int z :: st) H Q = Q (some (.int z)) H := w_iret (show decode kb25 53 = .ok (.ireturn, 1) from by decide +kernel) rfl
theorem m26_0 : M26 0 [.val (.ref r), l1] st H Q = M26 1 [.val (.ref r), l1] (.ref r :: st) H Q := w_x (show decode kb26 0 = .ok (.aload_n 0, 1) from by decide +kernel) rfl
theorem cr26_154 : vR tables_1 dn y26 154 = some (true, y27, prog_1_method_26_code, 3, none, 0, 18) := pR_of (cR_of (by decide +kernel) rc_27 dn_27 dn_26 (sig := ⟨[], none⟩) (by decide +kernel) (by decide +kernel) rfl rfl) (by decide +kernel) (by decide +kernel)
theorem m26_1 : M26 1 ls [.ref (b + 1)] (put (b + 1) pre s A post) Q = M27 0 [.val (.ref (b + 1)), .unset, .unset] [] (put (b + 1) pre s A post) (fun v H1 => M26 4 ls (v.toList ++ []) H1 Q) := w_virt (as := []) (rest := []) (a := (b + 1)) (show decode kb26 1 = .ok (.invokevirtual 154, 3) from by decide +kernel) cr26_154 put_o rfl rfl (Nat.le_of_ble_eq_true rfl) (by show 1 ≤ 3; omega) rfl
theorem m26_4 : M26 4 [.val (.ref r), l1] st H Q = M26 5 [.val (.ref r), l1] (.ref r :: st) H Q := w_x (show decode kb26 4 = .ok (.aload_n 0, 1) from by decide +kernel) rfl
theorem cr26_157 : vR tables_1 dn y26 157 = some (true, y28, prog_1_method_28_code, 7, (some .int), 0, 0) := pR_of (cR_of (by decide +kernel) rc_28 dn_28 dn_26 (sig := ⟨[], some .int⟩) (by decide +kernel) (by decide +kernel) rfl rfl) (by decide +kernel) (by decide +kernel)
theorem m26_5 : M26 5 ls [.ref (b + 1)] (put (b + 1) pre s A post) Q = M28 0 [.val (.ref (b + 1)), .unset, .unset, .unset, .unset, .unset, .unset] [] (put (b + 1) pre s A post) (fun v H1 => M26 8 ls (v.toList ++ []) H1 Q) := w_virt (as := []) (rest := []) (a := (b + 1)) (show decode kb26 5 = .ok (.invokevirtual 157, 3) from by decide +kernel) cr26_157 put_o rfl rfl (Nat.le_of_ble_eq_true rfl) (by show 1 ≤ 7; omega) rfl
theorem m26_8u : M26 8 [l0, .unset] ((.int v) :: st) H Q = M26 9 [l0, .val (.int v)] st H Q := w_st (i := 1) (p := isI) (show decode kb26 8 = .ok (.istore_n 1, 1) from by decide +kernel) rfl rfl rfl rfl rfl rfl
theorem m26_9 : M26 9 [l0, .val (.int v)] st H Q = M26 10 [l0, .val (.int v)] (.int v :: st) H Q := w_x (show decode kb26 9 = .ok (.iload_n 1, 1) from by decide +kernel) rfl
theorem m26_10 : M26 10 ls (.int x :: st) H Q = if x < 0 then M26 18 ls st H Q else M26 13 ls st H Q := w_if (show decode kb26 10 = .ok (.ifCond .lt 8, 3) from by decide +kernel) (z_lt x) rfl
theorem m26_13 : M26 13 [.val (.ref r), l1] st H Q = M26 14 [.val (.ref r), l1] (.ref r :: st) H Q := w_x (show decode kb26 13 = .ok (.aload_n 0, 1) from by decide +kernel) rfl
theorem m26_14 : M26 14 [l0, .val (.int v)] st H Q = M26 15 [l0, .val (.int v)] (.int v :: st) H Q := w_x (show decode kb26 14 = .ok (.iload_n 1, 1) from by decide +kernel) rfl
theorem cr26_161 : vR tables_1 dn y26 161 = some (true, y30, prog_1_method_30_code, 3, none, 1, 4) := pR_of (cR_of (by decide +kernel) rc_30 dn_30 dn_26 (sig := ⟨[.int], none⟩) (by decide +kernel) (by decide +kernel) rfl rfl) (by decide +kernel) (by decide +kernel)
theorem m26_15 (a0 : Int32) : M26 15 ls [.int a0, .ref (b + 1)] (put (b + 1) pre s A post) Q = M30 0 [.val (.ref (b + 1)), .val (.int a0), .unset] [] (put (b + 1) pre s A post) (fun v H1 => M26 18 ls (v.toList ++ []) H1 Q) := w_virt (as := [.int a0]) (rest := []) (a := (b + 1)) (show decode kb26 15 = .ok (.invokevirtual 161, 3) from by decide +kernel) cr26_161 put_o rfl rfl (Nat.le_of_ble_eq_true rfl) (by show 2 ≤ 3; omega) rfl
theorem m26_18 : M26 18 [.val (.ref r), l1] st H Q = M26 19 [.val (.ref r), l1] (.ref r :: st) H Q := w_x (show decode kb26 18 = .ok (.aload_n 0, 1) from by decide +kernel) rfl
theorem m26_19 : M26 19 ls ((.ref r) :: st) H Q = M26 20 ls ((.ref r) :: (.ref r) :: st) H Q := w_x (show decode kb26 19 = .ok (.dup, 1) from by decide +kernel) rfl
theorem m26_20 : M26 20 ls (.ref (b + 1) :: st) (put (b + 1) pre s A post) Q = M26 23 ls (.int (s 9) :: st) (put (b + 1) pre s A post) Q := w_get (show decode kb26 20 = .ok (.getfield 145, 3) from by decide +kernel) gf_145 put_o rfl
theorem m26_23 : M26 23 ls st H Q = M26 24 ls (.int 1 :: st) H Q := w_con (show decode kb26 23 = .ok (.iconst 1, 1) from by decide +kernel) rfl (by decide)
theorem m26_24 : M26 24 ls (.int y :: .int x :: st) H Q = M26 25 ls (.int (x + y) :: st) H Q := w_x (show decode kb26 24 = .ok (.iadd, 1) from by decide +kernel) rfl
theorem pf26_145 : pfR tables_1 y26.cls y26.name 145 = some ("ResponseTimeGate", 25, .int) := by decide +kernel
theorem m26_25 : M26 25 ls (.int v :: .ref (b + 1) :: st) (put (b + 1) pre s A post) Q = M26 28 ls st (put (b + 1) pre (ou s 9 v) A post) Q := w_put (show decode kb26 25 = .ok (.putfield 145, 3) from by decide +kernel) pf26_145 put_o (Nat.succ_le_succ (Nat.zero_le _)) (by show 25 < 31; omega) rfl put_s9
theorem m26_28 : M26 28 [.val (.ref r), l1] st H Q = M26 29 [.val (.ref r), l1] (.ref r :: st) H Q := w_x (show decode kb26 28 = .ok (.aload_n 0, 1) from by decide +kernel) rfl
theorem cr26_164 : vR tables_1 dn y26 164 = some (true, y32, prog_1_method_32_code, 2, none, 0, 19) := pR_of (cR_of (by decide +kernel) rc_32 dn_32 dn_26 (sig := ⟨[], none⟩) (by decide +kernel) (by decide +kernel) rfl rfl) (by decide +kernel) (by decide +kernel)
theorem m26_29 : M26 29 ls [.ref (b + 1)] (put (b + 1) pre s A post) Q = M32 0 [.val (.ref (b + 1)), .unset] [] (put (b + 1) pre s A post) (fun v H1 => M26 32 ls (v.toList ++ []) H1 Q) := w_virt (as := []) (rest := []) (a := (b + 1)) (show decode kb26 29 = .ok (.invokevirtual 164, 3) from by decide +kernel) cr26_164 put_o rfl rfl (Nat.le_of_ble_eq_true rfl) (by show 1 ≤ 2; omega) rfl
theorem m26_32 : M26 32 ls [] H Q = Q none H := w_vret (show decode kb26 32 = .ok (.return_, 1) from by decide +kernel) rfl
theorem m27_0 : M27 0 ls st H Q = M27 1 ls (.int 0 :: st) H Q := w_con (show decode kb27 0 = .ok (.iconst 0, 1) from by decide +kernel) rfl (by decide)
theorem m27_1u : M27 1 [l0, .unset, l2] ((.int v) :: st) H Q = M27 2 [l0, .val (.int v), l2] st H Q := w_st (i := 1) (p := isI) (show decode kb27 1 = .ok (.istore_n 1, 1) from by decide +kernel) rfl rfl rfl rfl rfl rfl
theorem m27_2 : M27 2 [l0, .val (.int v), l2] st H Q = M27 3 [l0, .val (.int v), l2] (.int v :: st) H Q := w_x (show decode kb27 2 = .ok (.iload_n 1, 1) from by decide +kernel) rfl
theorem m27_3 : M27 3 [.val (.ref r), l1, l2] st H Q = M27 4 [.val (.ref r), l1, l2] (.ref r :: st) H Q := w_x (show decode kb27 3 = .ok (.aload_n 0, 1) from by decide +kernel) rfl
theorem m27_4 : M27 4 ls (.ref (b + 1) :: st) (put (b + 1) pre s A post) Q = M27 7 ls (.int (s 1) :: st) (put (b + 1) pre s A post) Q := w_get (show decode kb27 4 = .ok (.getfield 75, 3) from by decide +kernel) gf_75 put_o rfl
theorem m27_7 : M27 7 ls (.int y :: .int x :: st) H Q = if x < y then M27 10 ls st H Q else M27 67 ls st H Q := w_icmpN (show decode kb27 7 = .ok (.if_icmp .ge 60, 3) from by decide +kernel) (i_ge x y) rfl
theorem m27_10 : M27 10 [.val (.ref r), l1, l2] st H Q = M27 11 [.val (.ref r), l1, l2] (.ref r :: st) H Q := w_x (show decode kb27 10 = .ok (.aload_n 0, 1) from by decide +kernel) rfl
theorem m27_11 : M27 11 ls (.ref (b + 1) :: st) (put (b + 1) pre s A post) Q = M27 14 ls (.ref ((b + 1) + 1) :: st) (put (b + 1) pre s A post) Q := w_get (show decode kb27 11 = .ok (.getfield 7, 3) from by decide +kernel) gf_7 put_o rfl
theorem m27_14 : M27 14 [l0, .val (.int v), l2] st H Q = M27 15 [l0, .val (.int v), l2] (.int v :: st) H Q := w_x (show decode kb27 14 = .ok (.iload_n 1, 1) from by decide +kernel) rfl
theorem m27_15  : M27 15 ls (.int j :: .ref ((b + 1) + 1) :: st) (put (b + 1) pre s A post) Q = (inB j (A 0) ∧ M27 16 ls (.int (getA (A 0) j) :: st) (put (b + 1) pre s A post) Q) := w_ild (show decode kb27 15 = .ok (.iaload, 1) from by decide +kernel) rfl put_a0
theorem m27_16u : M27 16 [l0, l1, .unset] ((.int v) :: st) H Q = M27 17 [l0, l1, .val (.int v)] st H Q := w_st (i := 2) (p := isI) (show decode kb27 16 = .ok (.istore_n 2, 1) from by decide +kernel) rfl rfl rfl rfl rfl rfl
theorem m27_16i : M27 16 [l0, l1, .val (.int z)] ((.int v) :: st) H Q = M27 17 [l0, l1, .val (.int v)] st H Q := w_st (i := 2) (p := isI) (show decode kb27 16 = .ok (.istore_n 2, 1) from by decide +kernel) rfl rfl rfl rfl rfl rfl
theorem m27_16r : M27 16 [l0, l1, .val (.ref q)] ((.int v) :: st) H Q = M27 17 [l0, l1, .val (.int v)] st H Q := w_st (i := 2) (p := isI) (show decode kb27 16 = .ok (.istore_n 2, 1) from by decide +kernel) rfl rfl rfl rfl rfl rfl
theorem m27_16g (h : okS l2) : M27 16 [l0, l1, l2] ((.int v) :: st) H Q = M27 17 [l0, l1, .val (.int v)] st H Q := by rcases h with rfl | ⟨z, rfl⟩ <;> first | exact m27_16u | exact m27_16i
theorem m27_17 : M27 17 [l0, l1, .val (.int v)] st H Q = M27 18 [l0, l1, .val (.int v)] (.int v :: st) H Q := w_x (show decode kb27 17 = .ok (.iload_n 2, 1) from by decide +kernel) rfl
theorem m27_18 : M27 18 ls (.int x :: st) H Q = if 0 < x then M27 21 ls st H Q else M27 61 ls st H Q := w_ifN (show decode kb27 18 = .ok (.ifCond .le 43, 3) from by decide +kernel) (z_le x) rfl
theorem m27_21 : M27 21 [.val (.ref r), l1, l2] st H Q = M27 22 [.val (.ref r), l1, l2] (.ref r :: st) H Q := w_x (show decode kb27 21 = .ok (.aload_n 0, 1) from by decide +kernel) rfl
theorem m27_22 : M27 22 ls (.ref (b + 1) :: st) (put (b + 1) pre s A post) Q = M27 25 ls (.int (s 9) :: st) (put (b + 1) pre s A post) Q := w_get (show decode kb27 22 = .ok (.getfield 145, 3) from by decide +kernel) gf_145 put_o rfl
theorem m27_25 : M27 25 [l0, l1, .val (.int v)] st H Q = M27 26 [l0, l1, .val (.int v)] (.int v :: st) H Q := w_x (show decode kb27 25 = .ok (.iload_n 2, 1) from by decide +kernel) rfl
theorem m27_26 : M27 26 ls (.int y :: .int x :: st) H Q = (y ≠ 0 ∧ M27 27 ls (.int (x % y) :: st) H Q) := w_div (f := fun x y => x % y) (show decode kb27 26 = .ok (.irem, 1) from by decide +kernel) (fun _ => rfl) rfl rfl
theorem m27_27 : M27 27 ls (.int x :: st) H Q = if x = 0 then M27 30 ls st H Q else M27 61 ls st H Q := w_ifN (show decode kb27 27 = .ok (.ifCond .ne 34, 3) from by decide +kernel) (z_ne x) rfl
theorem m27_30 : M27 30 [.val (.ref r), l1, l2] st H Q = M27 31 [.val (.ref r), l1, l2] (.ref r :: st) H Q := w_x (show decode kb27 30 = .ok (.aload_n 0, 1) from by decide +kernel) rfl
theorem m27_31 : M27 31 ls (.ref (b + 1) :: st) (put (b + 1) pre s A post) Q = M27 34 ls (.ref ((b + 1) + 15) :: st) (put (b + 1) pre s A post) Q := w_get (show decode kb27 31 = .ok (.getfield 52, 3) from by decide +kernel) gf_52 put_o rfl
theorem m27_34 : M27 34 [l0, .val (.int v), l2] st H Q = M27 35 [l0, .val (.int v), l2] (.int v :: st) H Q := w_x (show decode kb27 34 = .ok (.iload_n 1, 1) from by decide +kernel) rfl
theorem m27_35 : M27 35 ls st H Q = M27 36 ls (.int 1 :: st) H Q := w_con (show decode kb27 35 = .ok (.iconst 1, 1) from by decide +kernel) rfl (by decide)
theorem m27_36  : M27 36 ls (.int v :: .int j :: .ref ((b + 1) + 15) :: st) (put (b + 1) pre s A post) Q = (inB j (A 14) ∧ M27 37 ls st (put (b + 1) pre s (ou A 14 (setA (A 14) j (nar .boolean v))) post) Q) := w_ist (show decode kb27 36 = .ok (.bastore, 1) from by decide +kernel) rfl put_a14 (by omega) rfl put_w14
theorem m27_37 : M27 37 [.val (.ref r), l1, l2] st H Q = M27 38 [.val (.ref r), l1, l2] (.ref r :: st) H Q := w_x (show decode kb27 37 = .ok (.aload_n 0, 1) from by decide +kernel) rfl
theorem m27_38 : M27 38 ls (.ref (b + 1) :: st) (put (b + 1) pre s A post) Q = M27 41 ls (.ref ((b + 1) + 16) :: st) (put (b + 1) pre s A post) Q := w_get (show decode kb27 38 = .ok (.getfield 56, 3) from by decide +kernel) gf_56 put_o rfl
theorem m27_41 : M27 41 [l0, .val (.int v), l2] st H Q = M27 42 [l0, .val (.int v), l2] (.int v :: st) H Q := w_x (show decode kb27 41 = .ok (.iload_n 1, 1) from by decide +kernel) rfl
theorem m27_42 : M27 42 [.val (.ref r), l1, l2] st H Q = M27 43 [.val (.ref r), l1, l2] (.ref r :: st) H Q := w_x (show decode kb27 42 = .ok (.aload_n 0, 1) from by decide +kernel) rfl
theorem m27_43 : M27 43 ls (.ref (b + 1) :: st) (put (b + 1) pre s A post) Q = M27 46 ls (.int (s 9) :: st) (put (b + 1) pre s A post) Q := w_get (show decode kb27 43 = .ok (.getfield 145, 3) from by decide +kernel) gf_145 put_o rfl
theorem m27_46  : M27 46 ls (.int v :: .int j :: .ref ((b + 1) + 16) :: st) (put (b + 1) pre s A post) Q = (inB j (A 15) ∧ M27 47 ls st (put (b + 1) pre s (ou A 15 (setA (A 15) j v)) post) Q) := w_ist (show decode kb27 46 = .ok (.iastore, 1) from by decide +kernel) rfl put_a15 (by omega) rfl put_w15
theorem m27_47 : M27 47 [.val (.ref r), l1, l2] st H Q = M27 48 [.val (.ref r), l1, l2] (.ref r :: st) H Q := w_x (show decode kb27 47 = .ok (.aload_n 0, 1) from by decide +kernel) rfl
theorem m27_48 : M27 48 ls (.ref (b + 1) :: st) (put (b + 1) pre s A post) Q = M27 51 ls (.ref ((b + 1) + 17) :: st) (put (b + 1) pre s A post) Q := w_get (show decode kb27 48 = .ok (.getfield 59, 3) from by decide +kernel) gf_59 put_o rfl
theorem m27_51 : M27 51 [l0, .val (.int v), l2] st H Q = M27 52 [l0, .val (.int v), l2] (.int v :: st) H Q := w_x (show decode kb27 51 = .ok (.iload_n 1, 1) from by decide +kernel) rfl
theorem m27_52 : M27 52 ls st H Q = M27 53 ls (.int 0 :: st) H Q := w_con (show decode kb27 52 = .ok (.iconst 0, 1) from by decide +kernel) rfl (by decide)
theorem m27_53  : M27 53 ls (.int v :: .int j :: .ref ((b + 1) + 17) :: st) (put (b + 1) pre s A post) Q = (inB j (A 16) ∧ M27 54 ls st (put (b + 1) pre s (ou A 16 (setA (A 16) j v)) post) Q) := w_ist (show decode kb27 53 = .ok (.iastore, 1) from by decide +kernel) rfl put_a16 (by omega) rfl put_w16
theorem m27_54 : M27 54 [.val (.ref r), l1, l2] st H Q = M27 55 [.val (.ref r), l1, l2] (.ref r :: st) H Q := w_x (show decode kb27 54 = .ok (.aload_n 0, 1) from by decide +kernel) rfl
theorem m27_55 : M27 55 ls (.ref (b + 1) :: st) (put (b + 1) pre s A post) Q = M27 58 ls (.ref ((b + 1) + 18) :: st) (put (b + 1) pre s A post) Q := w_get (show decode kb27 55 = .ok (.getfield 62, 3) from by decide +kernel) gf_62 put_o rfl
theorem m27_58 : M27 58 [l0, .val (.int v), l2] st H Q = M27 59 [l0, .val (.int v), l2] (.int v :: st) H Q := w_x (show decode kb27 58 = .ok (.iload_n 1, 1) from by decide +kernel) rfl
theorem m27_59 : M27 59 ls st H Q = M27 60 ls (.int (-1) :: st) H Q := w_con (show decode kb27 59 = .ok (.iconst (-1), 1) from by decide +kernel) rfl (by decide)
theorem m27_60  : M27 60 ls (.int v :: .int j :: .ref ((b + 1) + 18) :: st) (put (b + 1) pre s A post) Q = (inB j (A 17) ∧ M27 61 ls st (put (b + 1) pre s (ou A 17 (setA (A 17) j v)) post) Q) := w_ist (show decode kb27 60 = .ok (.iastore, 1) from by decide +kernel) rfl put_a17 (by omega) rfl put_w17
theorem m27_61 : M27 61 [l0, .val (.int v), l2] st H Q = M27 64 [l0, .val (.int (v + 1)), l2] st H Q := w_iinc (show decode kb27 61 = .ok (.iinc 1 1, 3) from by decide +kernel) rfl (by decide) rfl
theorem m27_64 : M27 64 ls st H Q = M27 2 ls st H Q := w_x (show decode kb27 64 = .ok (.goto (-62), 3) from by decide +kernel) rfl
theorem m27_67 : M27 67 ls [] H Q = Q none H := w_vret (show decode kb27 67 = .ok (.return_, 1) from by decide +kernel) rfl
theorem m28_0 : M28 0 ls st H Q = M28 1 ls (.int (-1) :: st) H Q := w_con (show decode kb28 0 = .ok (.iconst (-1), 1) from by decide +kernel) rfl (by decide)
theorem m28_1u : M28 1 [l0, .unset, l2, l3, l4, l5, l6] ((.int v) :: st) H Q = M28 2 [l0, .val (.int v), l2, l3, l4, l5, l6] st H Q := w_st (i := 1) (p := isI) (show decode kb28 1 = .ok (.istore_n 1, 1) from by decide +kernel) rfl rfl rfl rfl rfl rfl
theorem m28_2 : M28 2 ls st H Q = M28 3 ls (.int (-1) :: st) H Q := w_con (show decode kb28 2 = .ok (.iconst (-1), 1) from by decide +kernel) rfl (by decide)
theorem m28_3u : M28 3 [l0, l1, .unset, l3, l4, l5, l6] ((.int v) :: st) H Q = M28 4 [l0, l1, .val (.int v), l3, l4, l5, l6] st H Q := w_st (i := 2) (p := isI) (show decode kb28 3 = .ok (.istore_n 2, 1) from by decide +kernel) rfl rfl rfl rfl rfl rfl
theorem m28_4 : M28 4 ls st H Q = M28 5 ls (.int 0 :: st) H Q := w_con (show decode kb28 4 = .ok (.iconst 0, 1) from by decide +kernel) rfl (by decide)
theorem m28_5u : M28 5 [l0, l1, l2, .unset, l4, l5, l6] ((.int v) :: st) H Q = M28 6 [l0, l1, l2, .val (.int v), l4, l5, l6] st H Q := w_st (i := 3) (p := isI) (show decode kb28 5 = .ok (.istore_n 3, 1) from by decide +kernel) rfl rfl rfl rfl rfl rfl
theorem m28_6 : M28 6 ls st H Q = M28 7 ls (.int 0 :: st) H Q := w_con (show decode kb28 6 = .ok (.iconst 0, 1) from by decide +kernel) rfl (by decide)
theorem m28_7u : M28 7 [l0, l1, l2, l3, .unset, l5, l6] ((.int v) :: st) H Q = M28 9 [l0, l1, l2, l3, .val (.int v), l5, l6] st H Q := w_st (i := 4) (p := isI) (show decode kb28 7 = .ok (.istore 4, 2) from by decide +kernel) rfl rfl rfl rfl rfl rfl
theorem m28_9 : M28 9 [l0, l1, l2, l3, .val (.int v), l5, l6] st H Q = M28 11 [l0, l1, l2, l3, .val (.int v), l5, l6] (.int v :: st) H Q := w_x (show decode kb28 9 = .ok (.iload 4, 2) from by decide +kernel) rfl
theorem m28_11 : M28 11 [.val (.ref r), l1, l2, l3, l4, l5, l6] st H Q = M28 12 [.val (.ref r), l1, l2, l3, l4, l5, l6] (.ref r :: st) H Q := w_x (show decode kb28 11 = .ok (.aload_n 0, 1) from by decide +kernel) rfl
theorem m28_12 : M28 12 ls (.ref (b + 1) :: st) (put (b + 1) pre s A post) Q = M28 15 ls (.int (s 1) :: st) (put (b + 1) pre s A post) Q := w_get (show decode kb28 12 = .ok (.getfield 75, 3) from by decide +kernel) gf_75 put_o rfl
theorem m28_15 : M28 15 ls (.int y :: .int x :: st) H Q = if x < y then M28 18 ls st H Q else M28 96 ls st H Q := w_icmpN (show decode kb28 15 = .ok (.if_icmp .ge 81, 3) from by decide +kernel) (i_ge x y) rfl
theorem m28_18 : M28 18 [.val (.ref r), l1, l2, l3, l4, l5, l6] st H Q = M28 19 [.val (.ref r), l1, l2, l3, l4, l5, l6] (.ref r :: st) H Q := w_x (show decode kb28 18 = .ok (.aload_n 0, 1) from by decide +kernel) rfl
theorem m28_19 : M28 19 ls (.ref (b + 1) :: st) (put (b + 1) pre s A post) Q = M28 22 ls (.ref ((b + 1) + 15) :: st) (put (b + 1) pre s A post) Q := w_get (show decode kb28 19 = .ok (.getfield 52, 3) from by decide +kernel) gf_52 put_o rfl
theorem m28_22 : M28 22 [l0, l1, l2, l3, .val (.int v), l5, l6] st H Q = M28 24 [l0, l1, l2, l3, .val (.int v), l5, l6] (.int v :: st) H Q := w_x (show decode kb28 22 = .ok (.iload 4, 2) from by decide +kernel) rfl
theorem m28_24  : M28 24 ls (.int j :: .ref ((b + 1) + 15) :: st) (put (b + 1) pre s A post) Q = (inB j (A 14) ∧ M28 25 ls (.int (getA (A 14) j) :: st) (put (b + 1) pre s A post) Q) := w_ild (show decode kb28 24 = .ok (.baload, 1) from by decide +kernel) rfl put_a14
theorem m28_25 : M28 25 ls (.int x :: st) H Q = if x = 0 then M28 28 ls st H Q else M28 31 ls st H Q := w_ifN (show decode kb28 25 = .ok (.ifCond .ne 6, 3) from by decide +kernel) (z_ne x) rfl
theorem m28_28 : M28 28 ls st H Q = M28 90 ls st H Q := w_x (show decode kb28 28 = .ok (.goto 62, 3) from by decide +kernel) rfl
theorem m28_31 : M28 31 [.val (.ref r), l1, l2, l3, l4, l5, l6] st H Q = M28 32 [.val (.ref r), l1, l2, l3, l4, l5, l6] (.ref r :: st) H Q := w_x (show decode kb28 31 = .ok (.aload_n 0, 1) from by decide +kernel) rfl
theorem m28_32 : M28 32 [l0, l1, l2, l3, .val (.int v), l5, l6] st H Q = M28 34 [l0, l1, l2, l3, .val (.int v), l5, l6] (.int v :: st) H Q := w_x (show decode kb28 32 = .ok (.iload 4, 2) from by decide +kernel) rfl
theorem cr28_167 : vR tables_1 dn y28 167 = some (true, y29, prog_1_method_27_code, 3, (some .int), 1, 0) := pR_of (cR_of (by decide +kernel) rc_29 dn_29 dn_28 (sig := ⟨[.int], some .int⟩) (by decide +kernel) (by decide +kernel) rfl rfl) (by decide +kernel) (by decide +kernel)
theorem m28_34 (a0 : Int32) : M28 34 ls [.int a0, .ref (b + 1)] (put (b + 1) pre s A post) Q = M29 0 [.val (.ref (b + 1)), .val (.int a0), .unset] [] (put (b + 1) pre s A post) (fun v H1 => M28 37 ls (v.toList ++ []) H1 Q) := w_virt (as := [.int a0]) (rest := []) (a := (b + 1)) (show decode kb28 34 = .ok (.invokevirtual 167, 3) from by decide +kernel) cr28_167 put_o rfl rfl (Nat.le_of_ble_eq_true rfl) (by show 2 ≤ 3; omega) rfl
theorem m28_37u : M28 37 [l0, l1, l2, l3, l4, .unset, l6] ((.int v) :: st) H Q = M28 39 [l0, l1, l2, l3, l4, .val (.int v), l6] st H Q := w_st (i := 5) (p := isI) (show decode kb28 37 = .ok (.istore 5, 2) from by decide +kernel) rfl rfl rfl rfl rfl rfl
theorem m28_37i : M28 37 [l0, l1, l2, l3, l4, .val (.int z), l6] ((.int v) :: st) H Q = M28 39 [l0, l1, l2, l3, l4, .val (.int v), l6] st H Q := w_st (i := 5) (p := isI) (show decode kb28 37 = .ok (.istore 5, 2) from by decide +kernel) rfl rfl rfl rfl rfl rfl
theorem m28_37r : M28 37 [l0, l1, l2, l3, l4, .val (.ref q), l6] ((.int v) :: st) H Q = M28 39 [l0, l1, l2, l3, l4, .val (.int v), l6] st H Q := w_st (i := 5) (p := isI) (show decode kb28 37 = .ok (.istore 5, 2) from by decide +kernel) rfl rfl rfl rfl rfl rfl
theorem m28_37g (h : okS l5) : M28 37 [l0, l1, l2, l3, l4, l5, l6] ((.int v) :: st) H Q = M28 39 [l0, l1, l2, l3, l4, .val (.int v), l6] st H Q := by rcases h with rfl | ⟨z, rfl⟩ <;> first | exact m28_37u | exact m28_37i
theorem m28_39 : M28 39 [.val (.ref r), l1, l2, l3, l4, l5, l6] st H Q = M28 40 [.val (.ref r), l1, l2, l3, l4, l5, l6] (.ref r :: st) H Q := w_x (show decode kb28 39 = .ok (.aload_n 0, 1) from by decide +kernel) rfl
theorem m28_40 : M28 40 ls (.ref (b + 1) :: st) (put (b + 1) pre s A post) Q = M28 43 ls (.ref ((b + 1) + 18) :: st) (put (b + 1) pre s A post) Q := w_get (show decode kb28 40 = .ok (.getfield 62, 3) from by decide +kernel) gf_62 put_o rfl
theorem m28_43 : M28 43 [l0, l1, l2, l3, .val (.int v), l5, l6] st H Q = M28 45 [l0, l1, l2, l3, .val (.int v), l5, l6] (.int v :: st) H Q := w_x (show decode kb28 43 = .ok (.iload 4, 2) from by decide +kernel) rfl
theorem m28_45  : M28 45 ls (.int j :: .ref ((b + 1) + 18) :: st) (put (b + 1) pre s A post) Q = (inB j (A 17) ∧ M28 46 ls (.int (getA (A 17) j) :: st) (put (b + 1) pre s A post) Q) := w_ild (show decode kb28 45 = .ok (.iaload, 1) from by decide +kernel) rfl put_a17
theorem m28_46 : M28 46 ls (.int x :: st) H Q = if x < 0 then M28 53 ls st H Q else M28 49 ls st H Q := w_if (show decode kb28 46 = .ok (.ifCond .lt 7, 3) from by decide +kernel) (z_lt x) rfl
theorem m28_49 : M28 49 ls st H Q = M28 50 ls (.int 1 :: st) H Q := w_con (show decode kb28 49 = .ok (.iconst 1, 1) from by decide +kernel) rfl (by decide)
theorem m28_50 : M28 50 ls st H Q = M28 54 ls st H Q := w_x (show decode kb28 50 = .ok (.goto 4, 3) from by decide +kernel) rfl
theorem m28_53 : M28 53 ls st H Q = M28 54 ls (.int 0 :: st) H Q := w_con (show decode kb28 53 = .ok (.iconst 0, 1) from by decide +kernel) rfl (by decide)
theorem m28_54u : M28 54 [l0, l1, l2, l3, l4, l5, .unset] ((.int v) :: st) H Q = M28 56 [l0, l1, l2, l3, l4, l5, .val (.int v)] st H Q := w_st (i := 6) (p := isI) (show decode kb28 54 = .ok (.istore 6, 2) from by decide +kernel) rfl rfl rfl rfl rfl rfl
theorem m28_54i : M28 54 [l0, l1, l2, l3, l4, l5, .val (.int z)] ((.int v) :: st) H Q = M28 56 [l0, l1, l2, l3, l4, l5, .val (.int v)] st H Q := w_st (i := 6) (p := isI) (show decode kb28 54 = .ok (.istore 6, 2) from by decide +kernel) rfl rfl rfl rfl rfl rfl
theorem m28_54r : M28 54 [l0, l1, l2, l3, l4, l5, .val (.ref q)] ((.int v) :: st) H Q = M28 56 [l0, l1, l2, l3, l4, l5, .val (.int v)] st H Q := w_st (i := 6) (p := isI) (show decode kb28 54 = .ok (.istore 6, 2) from by decide +kernel) rfl rfl rfl rfl rfl rfl
theorem m28_54g (h : okS l6) : M28 54 [l0, l1, l2, l3, l4, l5, l6] ((.int v) :: st) H Q = M28 56 [l0, l1, l2, l3, l4, l5, .val (.int v)] st H Q := by rcases h with rfl | ⟨z, rfl⟩ <;> first | exact m28_54u | exact m28_54i
theorem m28_56 : M28 56 [l0, .val (.int v), l2, l3, l4, l5, l6] st H Q = M28 57 [l0, .val (.int v), l2, l3, l4, l5, l6] (.int v :: st) H Q := w_x (show decode kb28 56 = .ok (.iload_n 1, 1) from by decide +kernel) rfl
theorem m28_57 : M28 57 ls (.int x :: st) H Q = if x < 0 then M28 81 ls st H Q else M28 60 ls st H Q := w_if (show decode kb28 57 = .ok (.ifCond .lt 24, 3) from by decide +kernel) (z_lt x) rfl
theorem m28_60 : M28 60 [l0, l1, l2, l3, l4, .val (.int v), l6] st H Q = M28 62 [l0, l1, l2, l3, l4, .val (.int v), l6] (.int v :: st) H Q := w_x (show decode kb28 60 = .ok (.iload 5, 2) from by decide +kernel) rfl
theorem m28_62 : M28 62 [l0, l1, .val (.int v), l3, l4, l5, l6] st H Q = M28 63 [l0, l1, .val (.int v), l3, l4, l5, l6] (.int v :: st) H Q := w_x (show decode kb28 62 = .ok (.iload_n 2, 1) from by decide +kernel) rfl
theorem m28_63 : M28 63 ls (.int y :: .int x :: st) H Q = if y < x then M28 81 ls st H Q else M28 66 ls st H Q := w_icmp (show decode kb28 63 = .ok (.if_icmp .gt 18, 3) from by decide +kernel) (i_gt x y) rfl
theorem m28_66 : M28 66 [l0, l1, l2, l3, l4, .val (.int v), l6] st H Q = M28 68 [l0, l1, l2, l3, l4, .val (.int v), l6] (.int v :: st) H Q := w_x (show decode kb28 66 = .ok (.iload 5, 2) from by decide +kernel) rfl
theorem m28_68 : M28 68 [l0, l1, .val (.int v), l3, l4, l5, l6] st H Q = M28 69 [l0, l1, .val (.int v), l3, l4, l5, l6] (.int v :: st) H Q := w_x (show decode kb28 68 = .ok (.iload_n 2, 1) from by decide +kernel) rfl
theorem m28_69 : M28 69 ls (.int y :: .int x :: st) H Q = if x = y then M28 72 ls st H Q else M28 90 ls st H Q := w_icmpN (show decode kb28 69 = .ok (.if_icmp .ne 21, 3) from by decide +kernel) (i_ne x y) rfl
theorem m28_72 : M28 72 [l0, l1, l2, l3, l4, l5, .val (.int v)] st H Q = M28 74 [l0, l1, l2, l3, l4, l5, .val (.int v)] (.int v :: st) H Q := w_x (show decode kb28 72 = .ok (.iload 6, 2) from by decide +kernel) rfl
theorem m28_74 : M28 74 ls (.int x :: st) H Q = if x = 0 then M28 90 ls st H Q else M28 77 ls st H Q := w_if (show decode kb28 74 = .ok (.ifCond .eq 16, 3) from by decide +kernel) (z_eq x) rfl
theorem m28_77 : M28 77 [l0, l1, l2, .val (.int v), l4, l5, l6] st H Q = M28 78 [l0, l1, l2, .val (.int v), l4, l5, l6] (.int v :: st) H Q := w_x (show decode kb28 77 = .ok (.iload_n 3, 1) from by decide +kernel) rfl
theorem m28_78 : M28 78 ls (.int x :: st) H Q = if x = 0 then M28 81 ls st H Q else M28 90 ls st H Q := w_ifN (show decode kb28 78 = .ok (.ifCond .ne 12, 3) from by decide +kernel) (z_ne x) rfl
theorem m28_81 : M28 81 [l0, l1, l2, l3, .val (.int v), l5, l6] st H Q = M28 83 [l0, l1, l2, l3, .val (.int v), l5, l6] (.int v :: st) H Q := w_x (show decode kb28 81 = .ok (.iload 4, 2) from by decide +kernel) rfl
theorem m28_83i : M28 83 [l0, .val (.int z), l2, l3, l4, l5, l6] ((.int v) :: st) H Q = M28 84 [l0, .val (.int v), l2, l3, l4, l5, l6] st H Q := w_st (i := 1) (p := isI) (show decode kb28 83 = .ok (.istore_n 1, 1) from by decide +kernel) rfl rfl rfl rfl rfl rfl
theorem m28_84 : M28 84 [l0, l1, l2, l3, l4, .val (.int v), l6] st H Q = M28 86 [l0, l1, l2, l3, l4, .val (.int v), l6] (.int v :: st) H Q := w_x (show decode kb28 84 = .ok (.iload 5, 2) from by decide +kernel) rfl
theorem m28_86i : M28 86 [l0, l1, .val (.int z), l3, l4, l5, l6] ((.int v) :: st) H Q = M28 87 [l0, l1, .val (.int v), l3, l4, l5, l6] st H Q := w_st (i := 2) (p := isI) (show decode kb28 86 = .ok (.istore_n 2, 1) from by decide +kernel) rfl rfl rfl rfl rfl rfl
theorem m28_87 : M28 87 [l0, l1, l2, l3, l4, l5, .val (.int v)] st H Q = M28 89 [l0, l1, l2, l3, l4, l5, .val (.int v)] (.int v :: st) H Q := w_x (show decode kb28 87 = .ok (.iload 6, 2) from by decide +kernel) rfl
theorem m28_89i : M28 89 [l0, l1, l2, .val (.int z), l4, l5, l6] ((.int v) :: st) H Q = M28 90 [l0, l1, l2, .val (.int v), l4, l5, l6] st H Q := w_st (i := 3) (p := isI) (show decode kb28 89 = .ok (.istore_n 3, 1) from by decide +kernel) rfl rfl rfl rfl rfl rfl
theorem m28_90 : M28 90 [l0, l1, l2, l3, .val (.int v), l5, l6] st H Q = M28 93 [l0, l1, l2, l3, .val (.int (v + 1)), l5, l6] st H Q := w_iinc (show decode kb28 90 = .ok (.iinc 4 1, 3) from by decide +kernel) rfl (by decide) rfl
theorem m28_93 : M28 93 ls st H Q = M28 9 ls st H Q := w_x (show decode kb28 93 = .ok (.goto (-84), 3) from by decide +kernel) rfl
theorem m28_96 : M28 96 [l0, .val (.int v), l2, l3, l4, l5, l6] st H Q = M28 97 [l0, .val (.int v), l2, l3, l4, l5, l6] (.int v :: st) H Q := w_x (show decode kb28 96 = .ok (.iload_n 1, 1) from by decide +kernel) rfl
theorem m28_97 : M28 97 ls (.int z :: st) H Q = Q (some (.int z)) H := w_iret (show decode kb28 97 = .ok (.ireturn, 1) from by decide +kernel) rfl
theorem m29_0 : M29 0 [.val (.ref r), l1, l2] st H Q = M29 1 [.val (.ref r), l1, l2] (.ref r :: st) H Q := w_x (show decode kb29 0 = .ok (.aload_n 0, 1) from by decide +kernel) rfl
theorem m29_1 : M29 1 ls (.ref (b + 1) :: st) (put (b + 1) pre s A post) Q = M29 4 ls (.ref ((b + 1) + 18) :: st) (put (b + 1) pre s A post) Q := w_get (show decode kb29 1 = .ok (.getfield 62, 3) from by decide +kernel) gf_62 put_o rfl
theorem m29_4 : M29 4 [l0, .val (.int v), l2] st H Q = M29 5 [l0, .val (.int v), l2] (.int v :: st) H Q := w_x (show decode kb29 4 = .ok (.iload_n 1, 1) from by decide +kernel) rfl
theorem m29_5  : M29 5 ls (.int j :: .ref ((b + 1) + 18) :: st) (put (b + 1) pre s A post) Q = (inB j (A 17) ∧ M29 6 ls (.int (getA (A 17) j) :: st) (put (b + 1) pre s A post) Q) := w_ild (show decode kb29 5 = .ok (.iaload, 1) from by decide +kernel) rfl put_a17
theorem m29_6u : M29 6 [l0, l1, .unset] ((.int v) :: st) H Q = M29 7 [l0, l1, .val (.int v)] st H Q := w_st (i := 2) (p := isI) (show decode kb29 6 = .ok (.istore_n 2, 1) from by decide +kernel) rfl rfl rfl rfl rfl rfl
theorem m29_7 : M29 7 [l0, l1, .val (.int v)] st H Q = M29 8 [l0, l1, .val (.int v)] (.int v :: st) H Q := w_x (show decode kb29 7 = .ok (.iload_n 2, 1) from by decide +kernel) rfl
theorem m29_8 : M29 8 ls (.int x :: st) H Q = if x < 0 then M29 23 ls st H Q else M29 11 ls st H Q := w_if (show decode kb29 8 = .ok (.ifCond .lt 15, 3) from by decide +kernel) (z_lt x) rfl
theorem m29_11 : M29 11 [l0, l1, .val (.int v)] st H Q = M29 12 [l0, l1, .val (.int v)] (.int v :: st) H Q := w_x (show decode kb29 11 = .ok (.iload_n 2, 1) from by decide +kernel) rfl
theorem m29_12 : M29 12 ls st H Q = M29 13 ls (.int 4 :: st) H Q := w_con (show decode kb29 12 = .ok (.iconst 4, 1) from by decide +kernel) rfl (by decide)
theorem m29_13 : M29 13 ls (.int y :: .int x :: st) H Q = if x < y then M29 16 ls st H Q else M29 23 ls st H Q := w_icmpN (show decode kb29 13 = .ok (.if_icmp .ge 10, 3) from by decide +kernel) (i_ge x y) rfl
theorem m29_16 : M29 16 [.val (.ref r), l1, l2] st H Q = M29 17 [.val (.ref r), l1, l2] (.ref r :: st) H Q := w_x (show decode kb29 16 = .ok (.aload_n 0, 1) from by decide +kernel) rfl
theorem m29_17 : M29 17 ls (.ref (b + 1) :: st) (put (b + 1) pre s A post) Q = M29 20 ls (.ref ((b + 1) + 9) :: st) (put (b + 1) pre s A post) Q := w_get (show decode kb29 17 = .ok (.getfield 34, 3) from by decide +kernel) gf_34 put_o rfl
theorem m29_20 : M29 20 [l0, l1, .val (.int v)] st H Q = M29 21 [l0, l1, .val (.int v)] (.int v :: st) H Q := w_x (show decode kb29 20 = .ok (.iload_n 2, 1) from by decide +kernel) rfl
theorem m29_21  : M29 21 ls (.int j :: .ref ((b + 1) + 9) :: st) (put (b + 1) pre s A post) Q = (inB j (A 8) ∧ M29 22 ls (.int (getA (A 8) j) :: st) (put (b + 1) pre s A post) Q) := w_ild (show decode kb29 21 = .ok (.iaload, 1) from by decide +kernel) rfl put_a8
theorem m29_22 : M29 22 ls (.int z :: st) H Q = Q (some (.int z)) H := w_iret (show decode kb29 22 = .ok (.ireturn, 1) from by decide +kernel) rfl
theorem m29_23 : M29 23 [.val (.ref r), l1, l2] st H Q = M29 24 [.val (.ref r), l1, l2] (.ref r :: st) H Q := w_x (show decode kb29 23 = .ok (.aload_n 0, 1) from by decide +kernel) rfl
theorem m29_24 : M29 24 ls (.ref (b + 1) :: st) (put (b + 1) pre s A post) Q = M29 27 ls (.ref ((b + 1) + 4) :: st) (put (b + 1) pre s A post) Q := w_get (show decode kb29 24 = .ok (.getfield 19, 3) from by decide +kernel) gf_19 put_o rfl
theorem m29_27 : M29 27 [l0, .val (.int v), l2] st H Q = M29 28 [l0, .val (.int v), l2] (.int v :: st) H Q := w_x (show decode kb29 27 = .ok (.iload_n 1, 1) from by decide +kernel) rfl
theorem m29_28  : M29 28 ls (.int j :: .ref ((b + 1) + 4) :: st) (put (b + 1) pre s A post) Q = (inB j (A 3) ∧ M29 29 ls (.int (getA (A 3) j) :: st) (put (b + 1) pre s A post) Q) := w_ild (show decode kb29 28 = .ok (.iaload, 1) from by decide +kernel) rfl put_a3
theorem m29_29 : M29 29 ls (.int z :: st) H Q = Q (some (.int z)) H := w_iret (show decode kb29 29 = .ok (.ireturn, 1) from by decide +kernel) rfl
theorem m30_0 : M30 0 [.val (.ref r), l1, l2] st H Q = M30 1 [.val (.ref r), l1, l2] (.ref r :: st) H Q := w_x (show decode kb30 0 = .ok (.aload_n 0, 1) from by decide +kernel) rfl
theorem m30_1 : M30 1 [l0, .val (.int v), l2] st H Q = M30 2 [l0, .val (.int v), l2] (.int v :: st) H Q := w_x (show decode kb30 1 = .ok (.iload_n 1, 1) from by decide +kernel) rfl
theorem cr30_170 : vR tables_1 dn y30 170 = some (true, y31, prog_1_method_29_code, 3, none, 1, 0) := pR_of (cR_of (by decide +kernel) rc_31 dn_31 dn_30 (sig := ⟨[.int], none⟩) (by decide +kernel) (by decide +kernel) rfl rfl) (by decide +kernel) (by decide +kernel)
theorem m30_2 (a0 : Int32) : M30 2 ls [.int a0, .ref (b + 1)] (put (b + 1) pre s A post) Q = M31 0 [.val (.ref (b + 1)), .val (.int a0), .unset] [] (put (b + 1) pre s A post) (fun v H1 => M30 5 ls (v.toList ++ []) H1 Q) := w_virt (as := [.int a0]) (rest := []) (a := (b + 1)) (show decode kb30 2 = .ok (.invokevirtual 170, 3) from by decide +kernel) cr30_170 put_o rfl rfl (Nat.le_of_ble_eq_true rfl) (by show 2 ≤ 3; omega) rfl
theorem m30_5 : M30 5 [.val (.ref r), l1, l2] st H Q = M30 6 [.val (.ref r), l1, l2] (.ref r :: st) H Q := w_x (show decode kb30 5 = .ok (.aload_n 0, 1) from by decide +kernel) rfl
theorem m30_6 : M30 6 ls (.ref (b + 1) :: st) (put (b + 1) pre s A post) Q = M30 9 ls (.ref ((b + 1) + 17) :: st) (put (b + 1) pre s A post) Q := w_get (show decode kb30 6 = .ok (.getfield 59, 3) from by decide +kernel) gf_59 put_o rfl
theorem m30_9 : M30 9 [l0, .val (.int v), l2] st H Q = M30 10 [l0, .val (.int v), l2] (.int v :: st) H Q := w_x (show decode kb30 9 = .ok (.iload_n 1, 1) from by decide +kernel) rfl
theorem m30_10 : M30 10 [.val (.ref r), l1, l2] st H Q = M30 11 [.val (.ref r), l1, l2] (.ref r :: st) H Q := w_x (show decode kb30 10 = .ok (.aload_n 0, 1) from by decide +kernel) rfl
theorem m30_11 : M30 11 ls (.ref (b + 1) :: st) (put (b + 1) pre s A post) Q = M30 14 ls (.ref ((b + 1) + 17) :: st) (put (b + 1) pre s A post) Q := w_get (show decode kb30 11 = .ok (.getfield 59, 3) from by decide +kernel) gf_59 put_o rfl
theorem m30_14 : M30 14 [l0, .val (.int v), l2] st H Q = M30 15 [l0, .val (.int v), l2] (.int v :: st) H Q := w_x (show decode kb30 14 = .ok (.iload_n 1, 1) from by decide +kernel) rfl
theorem m30_15  : M30 15 ls (.int j :: .ref ((b + 1) + 17) :: st) (put (b + 1) pre s A post) Q = (inB j (A 16) ∧ M30 16 ls (.int (getA (A 16) j) :: st) (put (b + 1) pre s A post) Q) := w_ild (show decode kb30 15 = .ok (.iaload, 1) from by decide +kernel) rfl put_a16
theorem m30_16 : M30 16 ls st H Q = M30 17 ls (.int 1 :: st) H Q := w_con (show decode kb30 16 = .ok (.iconst 1, 1) from by decide +kernel) rfl (by decide)
theorem m30_17 : M30 17 ls (.int y :: .int x :: st) H Q = M30 18 ls (.int (x + y) :: st) H Q := w_x (show decode kb30 17 = .ok (.iadd, 1) from by decide +kernel) rfl
theorem m30_18  : M30 18 ls (.int v :: .int j :: .ref ((b + 1) + 17) :: st) (put (b + 1) pre s A post) Q = (inB j (A 16) ∧ M30 19 ls st (put (b + 1) pre s (ou A 16 (setA (A 16) j v)) post) Q) := w_ist (show decode kb30 18 = .ok (.iastore, 1) from by decide +kernel) rfl put_a16 (by omega) rfl put_w16
theorem m30_19 : M30 19 [.val (.ref r), l1, l2] st H Q = M30 20 [.val (.ref r), l1, l2] (.ref r :: st) H Q := w_x (show decode kb30 19 = .ok (.aload_n 0, 1) from by decide +kernel) rfl
theorem m30_20 : M30 20 ls (.ref (b + 1) :: st) (put (b + 1) pre s A post) Q = M30 23 ls (.ref ((b + 1) + 18) :: st) (put (b + 1) pre s A post) Q := w_get (show decode kb30 20 = .ok (.getfield 62, 3) from by decide +kernel) gf_62 put_o rfl
theorem m30_23 : M30 23 [l0, .val (.int v), l2] st H Q = M30 24 [l0, .val (.int v), l2] (.int v :: st) H Q := w_x (show decode kb30 23 = .ok (.iload_n 1, 1) from by decide +kernel) rfl
theorem m30_24  : M30 24 ls (.int j :: .ref ((b + 1) + 18) :: st) (put (b + 1) pre s A post) Q = (inB j (A 17) ∧ M30 25 ls (.int (getA (A 17) j) :: st) (put (b + 1) pre s A post) Q) := w_ild (show decode kb30 24 = .ok (.iaload, 1) from by decide +kernel) rfl put_a17
theorem m30_25u : M30 25 [l0, l1, .unset] ((.int v) :: st) H Q = M30 26 [l0, l1, .val (.int v)] st H Q := w_st (i := 2) (p := isI) (show decode kb30 25 = .ok (.istore_n 2, 1) from by decide +kernel) rfl rfl rfl rfl rfl rfl
theorem m30_26 : M30 26 [l0, l1, .val (.int v)] st H Q = M30 27 [l0, l1, .val (.int v)] (.int v :: st) H Q := w_x (show decode kb30 26 = .ok (.iload_n 2, 1) from by decide +kernel) rfl
theorem m30_27 : M30 27 ls (.int x :: st) H Q = if x < 0 then M30 72 ls st H Q else M30 30 ls st H Q := w_if (show decode kb30 27 = .ok (.ifCond .lt 45, 3) from by decide +kernel) (z_lt x) rfl
theorem m30_30 : M30 30 [l0, l1, .val (.int v)] st H Q = M30 31 [l0, l1, .val (.int v)] (.int v :: st) H Q := w_x (show decode kb30 30 = .ok (.iload_n 2, 1) from by decide +kernel) rfl
theorem m30_31 : M30 31 ls st H Q = M30 32 ls (.int 4 :: st) H Q := w_con (show decode kb30 31 = .ok (.iconst 4, 1) from by decide +kernel) rfl (by decide)
theorem m30_32 : M30 32 ls (.int y :: .int x :: st) H Q = if x < y then M30 35 ls st H Q else M30 72 ls st H Q := w_icmpN (show decode kb30 32 = .ok (.if_icmp .ge 40, 3) from by decide +kernel) (i_ge x y) rfl
theorem m30_35 : M30 35 [.val (.ref r), l1, l2] st H Q = M30 36 [.val (.ref r), l1, l2] (.ref r :: st) H Q := w_x (show decode kb30 35 = .ok (.aload_n 0, 1) from by decide +kernel) rfl
theorem m30_36 : M30 36 ls (.ref (b + 1) :: st) (put (b + 1) pre s A post) Q = M30 39 ls (.ref ((b + 1) + 17) :: st) (put (b + 1) pre s A post) Q := w_get (show decode kb30 36 = .ok (.getfield 59, 3) from by decide +kernel) gf_59 put_o rfl
theorem m30_39 : M30 39 [l0, .val (.int v), l2] st H Q = M30 40 [l0, .val (.int v), l2] (.int v :: st) H Q := w_x (show decode kb30 39 = .ok (.iload_n 1, 1) from by decide +kernel) rfl
theorem m30_40  : M30 40 ls (.int j :: .ref ((b + 1) + 17) :: st) (put (b + 1) pre s A post) Q = (inB j (A 16) ∧ M30 41 ls (.int (getA (A 16) j) :: st) (put (b + 1) pre s A post) Q) := w_ild (show decode kb30 40 = .ok (.iaload, 1) from by decide +kernel) rfl put_a16
theorem m30_41 : M30 41 [.val (.ref r), l1, l2] st H Q = M30 42 [.val (.ref r), l1, l2] (.ref r :: st) H Q := w_x (show decode kb30 41 = .ok (.aload_n 0, 1) from by decide +kernel) rfl
theorem m30_42 : M30 42 ls (.ref (b + 1) :: st) (put (b + 1) pre s A post) Q = M30 45 ls (.ref ((b + 1) + 5) :: st) (put (b + 1) pre s A post) Q := w_get (show decode kb30 42 = .ok (.getfield 22, 3) from by decide +kernel) gf_22 put_o rfl
theorem m30_45 : M30 45 [l0, .val (.int v), l2] st H Q = M30 46 [l0, .val (.int v), l2] (.int v :: st) H Q := w_x (show decode kb30 45 = .ok (.iload_n 1, 1) from by decide +kernel) rfl
theorem m30_46 : M30 46 ls st H Q = M30 47 ls (.int 4 :: st) H Q := w_con (show decode kb30 46 = .ok (.iconst 4, 1) from by decide +kernel) rfl (by decide)
theorem m30_47 : M30 47 ls (.int y :: .int x :: st) H Q = M30 48 ls (.int (x * y) :: st) H Q := w_x (show decode kb30 47 = .ok (.imul, 1) from by decide +kernel) rfl
theorem m30_48 : M30 48 [l0, l1, .val (.int v)] st H Q = M30 49 [l0, l1, .val (.int v)] (.int v :: st) H Q := w_x (show decode kb30 48 = .ok (.iload_n 2, 1) from by decide +kernel) rfl
theorem m30_49 : M30 49 ls (.int y :: .int x :: st) H Q = M30 50 ls (.int (x + y) :: st) H Q := w_x (show decode kb30 49 = .ok (.iadd, 1) from by decide +kernel) rfl
theorem m30_50  : M30 50 ls (.int j :: .ref ((b + 1) + 5) :: st) (put (b + 1) pre s A post) Q = (inB j (A 4) ∧ M30 51 ls (.int (getA (A 4) j) :: st) (put (b + 1) pre s A post) Q) := w_ild (show decode kb30 50 = .ok (.iaload, 1) from by decide +kernel) rfl put_a4
theorem m30_51 : M30 51 [.val (.ref r), l1, l2] st H Q = M30 52 [.val (.ref r), l1, l2] (.ref r :: st) H Q := w_x (show decode kb30 51 = .ok (.aload_n 0, 1) from by decide +kernel) rfl
theorem m30_52 : M30 52 ls (.ref (b + 1) :: st) (put (b + 1) pre s A post) Q = M30 55 ls (.ref ((b + 1) + 6) :: st) (put (b + 1) pre s A post) Q := w_get (show decode kb30 52 = .ok (.getfield 25, 3) from by decide +kernel) gf_25 put_o rfl
theorem m30_55 : M30 55 [l0, .val (.int v), l2] st H Q = M30 56 [l0, .val (.int v), l2] (.int v :: st) H Q := w_x (show decode kb30 55 = .ok (.iload_n 1, 1) from by decide +kernel) rfl
theorem m30_56 : M30 56 ls st H Q = M30 57 ls (.int 4 :: st) H Q := w_con (show decode kb30 56 = .ok (.iconst 4, 1) from by decide +kernel) rfl (by decide)
theorem m30_57 : M30 57 ls (.int y :: .int x :: st) H Q = M30 58 ls (.int (x * y) :: st) H Q := w_x (show decode kb30 57 = .ok (.imul, 1) from by decide +kernel) rfl
theorem m30_58 : M30 58 [l0, l1, .val (.int v)] st H Q = M30 59 [l0, l1, .val (.int v)] (.int v :: st) H Q := w_x (show decode kb30 58 = .ok (.iload_n 2, 1) from by decide +kernel) rfl
theorem m30_59 : M30 59 ls (.int y :: .int x :: st) H Q = M30 60 ls (.int (x + y) :: st) H Q := w_x (show decode kb30 59 = .ok (.iadd, 1) from by decide +kernel) rfl
theorem m30_60  : M30 60 ls (.int j :: .ref ((b + 1) + 6) :: st) (put (b + 1) pre s A post) Q = (inB j (A 5) ∧ M30 61 ls (.int (getA (A 5) j) :: st) (put (b + 1) pre s A post) Q) := w_ild (show decode kb30 60 = .ok (.iaload, 1) from by decide +kernel) rfl put_a5
theorem m30_61 : M30 61 ls (.int y :: .int x :: st) H Q = M30 62 ls (.int (x + y) :: st) H Q := w_x (show decode kb30 61 = .ok (.iadd, 1) from by decide +kernel) rfl
theorem m30_62 : M30 62 ls (.int y :: .int x :: st) H Q = if x = y then M30 65 ls st H Q else M30 72 ls st H Q := w_icmpN (show decode kb30 62 = .ok (.if_icmp .ne 10, 3) from by decide +kernel) (i_ne x y) rfl
theorem m30_65 : M30 65 [.val (.ref r), l1, l2] st H Q = M30 66 [.val (.ref r), l1, l2] (.ref r :: st) H Q := w_x (show decode kb30 65 = .ok (.aload_n 0, 1) from by decide +kernel) rfl
theorem m30_66 : M30 66 ls (.ref (b + 1) :: st) (put (b + 1) pre s A post) Q = M30 69 ls (.ref ((b + 1) + 18) :: st) (put (b + 1) pre s A post) Q := w_get (show decode kb30 66 = .ok (.getfield 62, 3) from by decide +kernel) gf_62 put_o rfl
theorem m30_69 : M30 69 [l0, .val (.int v), l2] st H Q = M30 70 [l0, .val (.int v), l2] (.int v :: st) H Q := w_x (show decode kb30 69 = .ok (.iload_n 1, 1) from by decide +kernel) rfl
theorem m30_70 : M30 70 ls st H Q = M30 71 ls (.int (-1) :: st) H Q := w_con (show decode kb30 70 = .ok (.iconst (-1), 1) from by decide +kernel) rfl (by decide)
theorem m30_71  : M30 71 ls (.int v :: .int j :: .ref ((b + 1) + 18) :: st) (put (b + 1) pre s A post) Q = (inB j (A 17) ∧ M30 72 ls st (put (b + 1) pre s (ou A 17 (setA (A 17) j v)) post) Q) := w_ist (show decode kb30 71 = .ok (.iastore, 1) from by decide +kernel) rfl put_a17 (by omega) rfl put_w17
theorem m30_72 : M30 72 [.val (.ref r), l1, l2] st H Q = M30 73 [.val (.ref r), l1, l2] (.ref r :: st) H Q := w_x (show decode kb30 72 = .ok (.aload_n 0, 1) from by decide +kernel) rfl
theorem m30_73 : M30 73 ls (.ref (b + 1) :: st) (put (b + 1) pre s A post) Q = M30 76 ls (.ref ((b + 1) + 17) :: st) (put (b + 1) pre s A post) Q := w_get (show decode kb30 73 = .ok (.getfield 59, 3) from by decide +kernel) gf_59 put_o rfl
theorem m30_76 : M30 76 [l0, .val (.int v), l2] st H Q = M30 77 [l0, .val (.int v), l2] (.int v :: st) H Q := w_x (show decode kb30 76 = .ok (.iload_n 1, 1) from by decide +kernel) rfl
theorem m30_77  : M30 77 ls (.int j :: .ref ((b + 1) + 17) :: st) (put (b + 1) pre s A post) Q = (inB j (A 16) ∧ M30 78 ls (.int (getA (A 16) j) :: st) (put (b + 1) pre s A post) Q) := w_ild (show decode kb30 77 = .ok (.iaload, 1) from by decide +kernel) rfl put_a16
theorem m30_78 : M30 78 [.val (.ref r), l1, l2] st H Q = M30 79 [.val (.ref r), l1, l2] (.ref r :: st) H Q := w_x (show decode kb30 78 = .ok (.aload_n 0, 1) from by decide +kernel) rfl
theorem m30_79 : M30 79 ls (.ref (b + 1) :: st) (put (b + 1) pre s A post) Q = M30 82 ls (.ref ((b + 1) + 3) :: st) (put (b + 1) pre s A post) Q := w_get (show decode kb30 79 = .ok (.getfield 16, 3) from by decide +kernel) gf_16 put_o rfl
theorem m30_82 : M30 82 [l0, .val (.int v), l2] st H Q = M30 83 [l0, .val (.int v), l2] (.int v :: st) H Q := w_x (show decode kb30 82 = .ok (.iload_n 1, 1) from by decide +kernel) rfl
theorem m30_83  : M30 83 ls (.int j :: .ref ((b + 1) + 3) :: st) (put (b + 1) pre s A post) Q = (inB j (A 2) ∧ M30 84 ls (.int (getA (A 2) j) :: st) (put (b + 1) pre s A post) Q) := w_ild (show decode kb30 83 = .ok (.iaload, 1) from by decide +kernel) rfl put_a2
theorem m30_84 : M30 84 ls (.int y :: .int x :: st) H Q = if x = y then M30 87 ls st H Q else M30 92 ls st H Q := w_icmpN (show decode kb30 84 = .ok (.if_icmp .ne 8, 3) from by decide +kernel) (i_ne x y) rfl
theorem m30_87 : M30 87 [.val (.ref r), l1, l2] st H Q = M30 88 [.val (.ref r), l1, l2] (.ref r :: st) H Q := w_x (show decode kb30 87 = .ok (.aload_n 0, 1) from by decide +kernel) rfl
theorem m30_88 : M30 88 [l0, .val (.int v), l2] st H Q = M30 89 [l0, .val (.int v), l2] (.int v :: st) H Q := w_x (show decode kb30 88 = .ok (.iload_n 1, 1) from by decide +kernel) rfl
theorem cr30_173 : vR tables_1 dn y30 173 = some (true, y33, prog_1_method_31_code, 3, none, 1, 0) := pR_of (cR_of (by decide +kernel) rc_33 dn_33 dn_30 (sig := ⟨[.int], none⟩) (by decide +kernel) (by decide +kernel) rfl rfl) (by decide +kernel) (by decide +kernel)
theorem m30_89 (a0 : Int32) : M30 89 ls [.int a0, .ref (b + 1)] (put (b + 1) pre s A post) Q = M33 0 [.val (.ref (b + 1)), .val (.int a0), .unset] [] (put (b + 1) pre s A post) (fun v H1 => M30 92 ls (v.toList ++ []) H1 Q) := w_virt (as := [.int a0]) (rest := []) (a := (b + 1)) (show decode kb30 89 = .ok (.invokevirtual 173, 3) from by decide +kernel) cr30_173 put_o rfl rfl (Nat.le_of_ble_eq_true rfl) (by show 2 ≤ 3; omega) rfl
theorem m30_92 : M30 92 ls [] H Q = Q none H := w_vret (show decode kb30 92 = .ok (.return_, 1) from by decide +kernel) rfl
theorem m31_0 : M31 0 [.val (.ref r), l1, l2] st H Q = M31 1 [.val (.ref r), l1, l2] (.ref r :: st) H Q := w_x (show decode kb31 0 = .ok (.aload_n 0, 1) from by decide +kernel) rfl
theorem m31_1 : M31 1 ls (.ref (b + 1) :: st) (put (b + 1) pre s A post) Q = M31 4 ls (.ref ((b + 1) + 18) :: st) (put (b + 1) pre s A post) Q := w_get (show decode kb31 1 = .ok (.getfield 62, 3) from by decide +kernel) gf_62 put_o rfl
theorem m31_4 : M31 4 [l0, .val (.int v), l2] st H Q = M31 5 [l0, .val (.int v), l2] (.int v :: st) H Q := w_x (show decode kb31 4 = .ok (.iload_n 1, 1) from by decide +kernel) rfl
theorem m31_5  : M31 5 ls (.int j :: .ref ((b + 1) + 18) :: st) (put (b + 1) pre s A post) Q = (inB j (A 17) ∧ M31 6 ls (.int (getA (A 17) j) :: st) (put (b + 1) pre s A post) Q) := w_ild (show decode kb31 5 = .ok (.iaload, 1) from by decide +kernel) rfl put_a17
theorem m31_6 : M31 6 ls (.int x :: st) H Q = if x < 0 then M31 10 ls st H Q else M31 9 ls st H Q := w_if (show decode kb31 6 = .ok (.ifCond .lt 4, 3) from by decide +kernel) (z_lt x) rfl
theorem m31_9 : M31 9 ls [] H Q = Q none H := w_vret (show decode kb31 9 = .ok (.return_, 1) from by decide +kernel) rfl
theorem m31_10 : M31 10 ls st H Q = M31 11 ls (.int 0 :: st) H Q := w_con (show decode kb31 10 = .ok (.iconst 0, 1) from by decide +kernel) rfl (by decide)
theorem m31_11u : M31 11 [l0, l1, .unset] ((.int v) :: st) H Q = M31 12 [l0, l1, .val (.int v)] st H Q := w_st (i := 2) (p := isI) (show decode kb31 11 = .ok (.istore_n 2, 1) from by decide +kernel) rfl rfl rfl rfl rfl rfl
theorem m31_12 : M31 12 [l0, l1, .val (.int v)] st H Q = M31 13 [l0, l1, .val (.int v)] (.int v :: st) H Q := w_x (show decode kb31 12 = .ok (.iload_n 2, 1) from by decide +kernel) rfl
theorem m31_13 : M31 13 ls st H Q = M31 14 ls (.int 4 :: st) H Q := w_con (show decode kb31 13 = .ok (.iconst 4, 1) from by decide +kernel) rfl (by decide)
theorem m31_14 : M31 14 ls (.int y :: .int x :: st) H Q = if x < y then M31 17 ls st H Q else M31 63 ls st H Q := w_icmpN (show decode kb31 14 = .ok (.if_icmp .ge 49, 3) from by decide +kernel) (i_ge x y) rfl
theorem m31_17 : M31 17 [.val (.ref r), l1, l2] st H Q = M31 18 [.val (.ref r), l1, l2] (.ref r :: st) H Q := w_x (show decode kb31 17 = .ok (.aload_n 0, 1) from by decide +kernel) rfl
theorem m31_18 : M31 18 ls (.ref (b + 1) :: st) (put (b + 1) pre s A post) Q = M31 21 ls (.ref ((b + 1) + 6) :: st) (put (b + 1) pre s A post) Q := w_get (show decode kb31 18 = .ok (.getfield 25, 3) from by decide +kernel) gf_25 put_o rfl
theorem m31_21 : M31 21 [l0, .val (.int v), l2] st H Q = M31 22 [l0, .val (.int v), l2] (.int v :: st) H Q := w_x (show decode kb31 21 = .ok (.iload_n 1, 1) from by decide +kernel) rfl
theorem m31_22 : M31 22 ls st H Q = M31 23 ls (.int 4 :: st) H Q := w_con (show decode kb31 22 = .ok (.iconst 4, 1) from by decide +kernel) rfl (by decide)
theorem m31_23 : M31 23 ls (.int y :: .int x :: st) H Q = M31 24 ls (.int (x * y) :: st) H Q := w_x (show decode kb31 23 = .ok (.imul, 1) from by decide +kernel) rfl
theorem m31_24 : M31 24 [l0, l1, .val (.int v)] st H Q = M31 25 [l0, l1, .val (.int v)] (.int v :: st) H Q := w_x (show decode kb31 24 = .ok (.iload_n 2, 1) from by decide +kernel) rfl
theorem m31_25 : M31 25 ls (.int y :: .int x :: st) H Q = M31 26 ls (.int (x + y) :: st) H Q := w_x (show decode kb31 25 = .ok (.iadd, 1) from by decide +kernel) rfl
theorem m31_26  : M31 26 ls (.int j :: .ref ((b + 1) + 6) :: st) (put (b + 1) pre s A post) Q = (inB j (A 5) ∧ M31 27 ls (.int (getA (A 5) j) :: st) (put (b + 1) pre s A post) Q) := w_ild (show decode kb31 26 = .ok (.iaload, 1) from by decide +kernel) rfl put_a5
theorem m31_27 : M31 27 ls (.int x :: st) H Q = if 0 < x then M31 30 ls st H Q else M31 57 ls st H Q := w_ifN (show decode kb31 27 = .ok (.ifCond .le 30, 3) from by decide +kernel) (z_le x) rfl
theorem m31_30 : M31 30 [.val (.ref r), l1, l2] st H Q = M31 31 [.val (.ref r), l1, l2] (.ref r :: st) H Q := w_x (show decode kb31 30 = .ok (.aload_n 0, 1) from by decide +kernel) rfl
theorem m31_31 : M31 31 ls (.ref (b + 1) :: st) (put (b + 1) pre s A post) Q = M31 34 ls (.ref ((b + 1) + 5) :: st) (put (b + 1) pre s A post) Q := w_get (show decode kb31 31 = .ok (.getfield 22, 3) from by decide +kernel) gf_22 put_o rfl
theorem m31_34 : M31 34 [l0, .val (.int v), l2] st H Q = M31 35 [l0, .val (.int v), l2] (.int v :: st) H Q := w_x (show decode kb31 34 = .ok (.iload_n 1, 1) from by decide +kernel) rfl
theorem m31_35 : M31 35 ls st H Q = M31 36 ls (.int 4 :: st) H Q := w_con (show decode kb31 35 = .ok (.iconst 4, 1) from by decide +kernel) rfl (by decide)
theorem m31_36 : M31 36 ls (.int y :: .int x :: st) H Q = M31 37 ls (.int (x * y) :: st) H Q := w_x (show decode kb31 36 = .ok (.imul, 1) from by decide +kernel) rfl
theorem m31_37 : M31 37 [l0, l1, .val (.int v)] st H Q = M31 38 [l0, l1, .val (.int v)] (.int v :: st) H Q := w_x (show decode kb31 37 = .ok (.iload_n 2, 1) from by decide +kernel) rfl
theorem m31_38 : M31 38 ls (.int y :: .int x :: st) H Q = M31 39 ls (.int (x + y) :: st) H Q := w_x (show decode kb31 38 = .ok (.iadd, 1) from by decide +kernel) rfl
theorem m31_39  : M31 39 ls (.int j :: .ref ((b + 1) + 5) :: st) (put (b + 1) pre s A post) Q = (inB j (A 4) ∧ M31 40 ls (.int (getA (A 4) j) :: st) (put (b + 1) pre s A post) Q) := w_ild (show decode kb31 39 = .ok (.iaload, 1) from by decide +kernel) rfl put_a4
theorem m31_40 : M31 40 [.val (.ref r), l1, l2] st H Q = M31 41 [.val (.ref r), l1, l2] (.ref r :: st) H Q := w_x (show decode kb31 40 = .ok (.aload_n 0, 1) from by decide +kernel) rfl
theorem m31_41 : M31 41 ls (.ref (b + 1) :: st) (put (b + 1) pre s A post) Q = M31 44 ls (.ref ((b + 1) + 17) :: st) (put (b + 1) pre s A post) Q := w_get (show decode kb31 41 = .ok (.getfield 59, 3) from by decide +kernel) gf_59 put_o rfl
theorem m31_44 : M31 44 [l0, .val (.int v), l2] st H Q = M31 45 [l0, .val (.int v), l2] (.int v :: st) H Q := w_x (show decode kb31 44 = .ok (.iload_n 1, 1) from by decide +kernel) rfl
theorem m31_45  : M31 45 ls (.int j :: .ref ((b + 1) + 17) :: st) (put (b + 1) pre s A post) Q = (inB j (A 16) ∧ M31 46 ls (.int (getA (A 16) j) :: st) (put (b + 1) pre s A post) Q) := w_ild (show decode kb31 45 = .ok (.iaload, 1) from by decide +kernel) rfl put_a16
theorem m31_46 : M31 46 ls (.int y :: .int x :: st) H Q = if x = y then M31 49 ls st H Q else M31 57 ls st H Q := w_icmpN (show decode kb31 46 = .ok (.if_icmp .ne 11, 3) from by decide +kernel) (i_ne x y) rfl
theorem m31_49 : M31 49 [.val (.ref r), l1, l2] st H Q = M31 50 [.val (.ref r), l1, l2] (.ref r :: st) H Q := w_x (show decode kb31 49 = .ok (.aload_n 0, 1) from by decide +kernel) rfl
theorem m31_50 : M31 50 ls (.ref (b + 1) :: st) (put (b + 1) pre s A post) Q = M31 53 ls (.ref ((b + 1) + 18) :: st) (put (b + 1) pre s A post) Q := w_get (show decode kb31 50 = .ok (.getfield 62, 3) from by decide +kernel) gf_62 put_o rfl
theorem m31_53 : M31 53 [l0, .val (.int v), l2] st H Q = M31 54 [l0, .val (.int v), l2] (.int v :: st) H Q := w_x (show decode kb31 53 = .ok (.iload_n 1, 1) from by decide +kernel) rfl
theorem m31_54 : M31 54 [l0, l1, .val (.int v)] st H Q = M31 55 [l0, l1, .val (.int v)] (.int v :: st) H Q := w_x (show decode kb31 54 = .ok (.iload_n 2, 1) from by decide +kernel) rfl
theorem m31_55  : M31 55 ls (.int v :: .int j :: .ref ((b + 1) + 18) :: st) (put (b + 1) pre s A post) Q = (inB j (A 17) ∧ M31 56 ls st (put (b + 1) pre s (ou A 17 (setA (A 17) j v)) post) Q) := w_ist (show decode kb31 55 = .ok (.iastore, 1) from by decide +kernel) rfl put_a17 (by omega) rfl put_w17
theorem m31_56 : M31 56 ls [] H Q = Q none H := w_vret (show decode kb31 56 = .ok (.return_, 1) from by decide +kernel) rfl
theorem m31_57 : M31 57 [l0, l1, .val (.int v)] st H Q = M31 60 [l0, l1, .val (.int (v + 1))] st H Q := w_iinc (show decode kb31 57 = .ok (.iinc 2 1, 3) from by decide +kernel) rfl (by decide) rfl
theorem m31_60 : M31 60 ls st H Q = M31 12 ls st H Q := w_x (show decode kb31 60 = .ok (.goto (-48), 3) from by decide +kernel) rfl
theorem m31_63 : M31 63 ls [] H Q = Q none H := w_vret (show decode kb31 63 = .ok (.return_, 1) from by decide +kernel) rfl
theorem m32_0 : M32 0 ls st H Q = M32 1 ls (.int 0 :: st) H Q := w_con (show decode kb32 0 = .ok (.iconst 0, 1) from by decide +kernel) rfl (by decide)
theorem m32_1u : M32 1 [l0, .unset] ((.int v) :: st) H Q = M32 2 [l0, .val (.int v)] st H Q := w_st (i := 1) (p := isI) (show decode kb32 1 = .ok (.istore_n 1, 1) from by decide +kernel) rfl rfl rfl rfl rfl rfl
theorem m32_2 : M32 2 [l0, .val (.int v)] st H Q = M32 3 [l0, .val (.int v)] (.int v :: st) H Q := w_x (show decode kb32 2 = .ok (.iload_n 1, 1) from by decide +kernel) rfl
theorem m32_3 : M32 3 [.val (.ref r), l1] st H Q = M32 4 [.val (.ref r), l1] (.ref r :: st) H Q := w_x (show decode kb32 3 = .ok (.aload_n 0, 1) from by decide +kernel) rfl
theorem m32_4 : M32 4 ls (.ref (b + 1) :: st) (put (b + 1) pre s A post) Q = M32 7 ls (.int (s 1) :: st) (put (b + 1) pre s A post) Q := w_get (show decode kb32 4 = .ok (.getfield 75, 3) from by decide +kernel) gf_75 put_o rfl
theorem m32_7 : M32 7 ls (.int y :: .int x :: st) H Q = if x < y then M32 10 ls st H Q else M32 69 ls st H Q := w_icmpN (show decode kb32 7 = .ok (.if_icmp .ge 62, 3) from by decide +kernel) (i_ge x y) rfl
theorem m32_10 : M32 10 [.val (.ref r), l1] st H Q = M32 11 [.val (.ref r), l1] (.ref r :: st) H Q := w_x (show decode kb32 10 = .ok (.aload_n 0, 1) from by decide +kernel) rfl
theorem m32_11 : M32 11 ls (.ref (b + 1) :: st) (put (b + 1) pre s A post) Q = M32 14 ls (.ref ((b + 1) + 15) :: st) (put (b + 1) pre s A post) Q := w_get (show decode kb32 11 = .ok (.getfield 52, 3) from by decide +kernel) gf_52 put_o rfl
theorem m32_14 : M32 14 [l0, .val (.int v)] st H Q = M32 15 [l0, .val (.int v)] (.int v :: st) H Q := w_x (show decode kb32 14 = .ok (.iload_n 1, 1) from by decide +kernel) rfl
theorem m32_15  : M32 15 ls (.int j :: .ref ((b + 1) + 15) :: st) (put (b + 1) pre s A post) Q = (inB j (A 14) ∧ M32 16 ls (.int (getA (A 14) j) :: st) (put (b + 1) pre s A post) Q) := w_ild (show decode kb32 15 = .ok (.baload, 1) from by decide +kernel) rfl put_a14
theorem m32_16 : M32 16 ls (.int x :: st) H Q = if x = 0 then M32 63 ls st H Q else M32 19 ls st H Q := w_if (show decode kb32 16 = .ok (.ifCond .eq 47, 3) from by decide +kernel) (z_eq x) rfl
theorem m32_19 : M32 19 [.val (.ref r), l1] st H Q = M32 20 [.val (.ref r), l1] (.ref r :: st) H Q := w_x (show decode kb32 19 = .ok (.aload_n 0, 1) from by decide +kernel) rfl
theorem m32_20 : M32 20 ls (.ref (b + 1) :: st) (put (b + 1) pre s A post) Q = M32 23 ls (.ref ((b + 1) + 16) :: st) (put (b + 1) pre s A post) Q := w_get (show decode kb32 20 = .ok (.getfield 56, 3) from by decide +kernel) gf_56 put_o rfl
theorem m32_23 : M32 23 [l0, .val (.int v)] st H Q = M32 24 [l0, .val (.int v)] (.int v :: st) H Q := w_x (show decode kb32 23 = .ok (.iload_n 1, 1) from by decide +kernel) rfl
theorem m32_24  : M32 24 ls (.int j :: .ref ((b + 1) + 16) :: st) (put (b + 1) pre s A post) Q = (inB j (A 15) ∧ M32 25 ls (.int (getA (A 15) j) :: st) (put (b + 1) pre s A post) Q) := w_ild (show decode kb32 24 = .ok (.iaload, 1) from by decide +kernel) rfl put_a15
theorem m32_25 : M32 25 [.val (.ref r), l1] st H Q = M32 26 [.val (.ref r), l1] (.ref r :: st) H Q := w_x (show decode kb32 25 = .ok (.aload_n 0, 1) from by decide +kernel) rfl
theorem m32_26 : M32 26 ls (.ref (b + 1) :: st) (put (b + 1) pre s A post) Q = M32 29 ls (.ref ((b + 1) + 2) :: st) (put (b + 1) pre s A post) Q := w_get (show decode kb32 26 = .ok (.getfield 13, 3) from by decide +kernel) gf_13 put_o rfl
theorem m32_29 : M32 29 [l0, .val (.int v)] st H Q = M32 30 [l0, .val (.int v)] (.int v :: st) H Q := w_x (show decode kb32 29 = .ok (.iload_n 1, 1) from by decide +kernel) rfl
theorem m32_30  : M32 30 ls (.int j :: .ref ((b + 1) + 2) :: st) (put (b + 1) pre s A post) Q = (inB j (A 1) ∧ M32 31 ls (.int (getA (A 1) j) :: st) (put (b + 1) pre s A post) Q) := w_ild (show decode kb32 30 = .ok (.iaload, 1) from by decide +kernel) rfl put_a1
theorem m32_31 : M32 31 ls (.int y :: .int x :: st) H Q = M32 32 ls (.int (x + y) :: st) H Q := w_x (show decode kb32 31 = .ok (.iadd, 1) from by decide +kernel) rfl
theorem m32_32 : M32 32 [.val (.ref r), l1] st H Q = M32 33 [.val (.ref r), l1] (.ref r :: st) H Q := w_x (show decode kb32 32 = .ok (.aload_n 0, 1) from by decide +kernel) rfl
theorem m32_33 : M32 33 ls (.ref (b + 1) :: st) (put (b + 1) pre s A post) Q = M32 36 ls (.int (s 9) :: st) (put (b + 1) pre s A post) Q := w_get (show decode kb32 33 = .ok (.getfield 145, 3) from by decide +kernel) gf_145 put_o rfl
theorem m32_36 : M32 36 ls (.int y :: .int x :: st) H Q = if x = y then M32 39 ls st H Q else M32 63 ls st H Q := w_icmpN (show decode kb32 36 = .ok (.if_icmp .ne 27, 3) from by decide +kernel) (i_ne x y) rfl
theorem m32_39 : M32 39 [.val (.ref r), l1] st H Q = M32 40 [.val (.ref r), l1] (.ref r :: st) H Q := w_x (show decode kb32 39 = .ok (.aload_n 0, 1) from by decide +kernel) rfl
theorem m32_40 : M32 40 ls ((.ref r) :: st) H Q = M32 41 ls ((.ref r) :: (.ref r) :: st) H Q := w_x (show decode kb32 40 = .ok (.dup, 1) from by decide +kernel) rfl
theorem m32_41 : M32 41 ls (.ref (b + 1) :: st) (put (b + 1) pre s A post) Q = M32 44 ls (.int (s 10) :: st) (put (b + 1) pre s A post) Q := w_get (show decode kb32 41 = .ok (.getfield 148, 3) from by decide +kernel) gf_148 put_o rfl
theorem m32_44 : M32 44 ls st H Q = M32 45 ls (.int 1 :: st) H Q := w_con (show decode kb32 44 = .ok (.iconst 1, 1) from by decide +kernel) rfl (by decide)
theorem m32_45 : M32 45 ls (.int y :: .int x :: st) H Q = M32 46 ls (.int (x + y) :: st) H Q := w_x (show decode kb32 45 = .ok (.iadd, 1) from by decide +kernel) rfl
theorem pf32_148 : pfR tables_1 y32.cls y32.name 148 = some ("ResponseTimeGate", 26, .int) := by decide +kernel
theorem m32_46 : M32 46 ls (.int v :: .ref (b + 1) :: st) (put (b + 1) pre s A post) Q = M32 49 ls st (put (b + 1) pre (ou s 10 v) A post) Q := w_put (show decode kb32 46 = .ok (.putfield 148, 3) from by decide +kernel) pf32_148 put_o (Nat.succ_le_succ (Nat.zero_le _)) (by show 26 < 31; omega) rfl put_s10
theorem m32_49 : M32 49 [.val (.ref r), l1] st H Q = M32 50 [.val (.ref r), l1] (.ref r :: st) H Q := w_x (show decode kb32 49 = .ok (.aload_n 0, 1) from by decide +kernel) rfl
theorem m32_50 : M32 50 ls (.ref (b + 1) :: st) (put (b + 1) pre s A post) Q = M32 53 ls (.ref ((b + 1) + 18) :: st) (put (b + 1) pre s A post) Q := w_get (show decode kb32 50 = .ok (.getfield 62, 3) from by decide +kernel) gf_62 put_o rfl
theorem m32_53 : M32 53 [l0, .val (.int v)] st H Q = M32 54 [l0, .val (.int v)] (.int v :: st) H Q := w_x (show decode kb32 53 = .ok (.iload_n 1, 1) from by decide +kernel) rfl
theorem m32_54 : M32 54 ls st H Q = M32 55 ls (.int (-1) :: st) H Q := w_con (show decode kb32 54 = .ok (.iconst (-1), 1) from by decide +kernel) rfl (by decide)
theorem m32_55  : M32 55 ls (.int v :: .int j :: .ref ((b + 1) + 18) :: st) (put (b + 1) pre s A post) Q = (inB j (A 17) ∧ M32 56 ls st (put (b + 1) pre s (ou A 17 (setA (A 17) j v)) post) Q) := w_ist (show decode kb32 55 = .ok (.iastore, 1) from by decide +kernel) rfl put_a17 (by omega) rfl put_w17
theorem m32_56 : M32 56 [.val (.ref r), l1] st H Q = M32 57 [.val (.ref r), l1] (.ref r :: st) H Q := w_x (show decode kb32 56 = .ok (.aload_n 0, 1) from by decide +kernel) rfl
theorem m32_57 : M32 57 ls (.ref (b + 1) :: st) (put (b + 1) pre s A post) Q = M32 60 ls (.ref ((b + 1) + 15) :: st) (put (b + 1) pre s A post) Q := w_get (show decode kb32 57 = .ok (.getfield 52, 3) from by decide +kernel) gf_52 put_o rfl
theorem m32_60 : M32 60 [l0, .val (.int v)] st H Q = M32 61 [l0, .val (.int v)] (.int v :: st) H Q := w_x (show decode kb32 60 = .ok (.iload_n 1, 1) from by decide +kernel) rfl
theorem m32_61 : M32 61 ls st H Q = M32 62 ls (.int 0 :: st) H Q := w_con (show decode kb32 61 = .ok (.iconst 0, 1) from by decide +kernel) rfl (by decide)
theorem m32_62  : M32 62 ls (.int v :: .int j :: .ref ((b + 1) + 15) :: st) (put (b + 1) pre s A post) Q = (inB j (A 14) ∧ M32 63 ls st (put (b + 1) pre s (ou A 14 (setA (A 14) j (nar .boolean v))) post) Q) := w_ist (show decode kb32 62 = .ok (.bastore, 1) from by decide +kernel) rfl put_a14 (by omega) rfl put_w14
theorem m32_63 : M32 63 [l0, .val (.int v)] st H Q = M32 66 [l0, .val (.int (v + 1))] st H Q := w_iinc (show decode kb32 63 = .ok (.iinc 1 1, 3) from by decide +kernel) rfl (by decide) rfl
theorem m32_66 : M32 66 ls st H Q = M32 2 ls st H Q := w_x (show decode kb32 66 = .ok (.goto (-64), 3) from by decide +kernel) rfl
theorem m32_69 : M32 69 ls [] H Q = Q none H := w_vret (show decode kb32 69 = .ok (.return_, 1) from by decide +kernel) rfl
theorem m33_0 : M33 0 [.val (.ref r), l1, l2] st H Q = M33 1 [.val (.ref r), l1, l2] (.ref r :: st) H Q := w_x (show decode kb33 0 = .ok (.aload_n 0, 1) from by decide +kernel) rfl
theorem m33_1 : M33 1 ls (.ref (b + 1) :: st) (put (b + 1) pre s A post) Q = M33 4 ls (.int (s 9) :: st) (put (b + 1) pre s A post) Q := w_get (show decode kb33 1 = .ok (.getfield 145, 3) from by decide +kernel) gf_145 put_o rfl
theorem m33_4 : M33 4 ls st H Q = M33 5 ls (.int 1 :: st) H Q := w_con (show decode kb33 4 = .ok (.iconst 1, 1) from by decide +kernel) rfl (by decide)
theorem m33_5 : M33 5 ls (.int y :: .int x :: st) H Q = M33 6 ls (.int (x + y) :: st) H Q := w_x (show decode kb33 5 = .ok (.iadd, 1) from by decide +kernel) rfl
theorem m33_6 : M33 6 [.val (.ref r), l1, l2] st H Q = M33 7 [.val (.ref r), l1, l2] (.ref r :: st) H Q := w_x (show decode kb33 6 = .ok (.aload_n 0, 1) from by decide +kernel) rfl
theorem m33_7 : M33 7 ls (.ref (b + 1) :: st) (put (b + 1) pre s A post) Q = M33 10 ls (.ref ((b + 1) + 16) :: st) (put (b + 1) pre s A post) Q := w_get (show decode kb33 7 = .ok (.getfield 56, 3) from by decide +kernel) gf_56 put_o rfl
theorem m33_10 : M33 10 [l0, .val (.int v), l2] st H Q = M33 11 [l0, .val (.int v), l2] (.int v :: st) H Q := w_x (show decode kb33 10 = .ok (.iload_n 1, 1) from by decide +kernel) rfl
theorem m33_11  : M33 11 ls (.int j :: .ref ((b + 1) + 16) :: st) (put (b + 1) pre s A post) Q = (inB j (A 15) ∧ M33 12 ls (.int (getA (A 15) j) :: st) (put (b + 1) pre s A post) Q) := w_ild (show decode kb33 11 = .ok (.iaload, 1) from by decide +kernel) rfl put_a15
theorem m33_12 : M33 12 ls (.int y :: .int x :: st) H Q = M33 13 ls (.int (x - y) :: st) H Q := w_x (show decode kb33 12 = .ok (.isub, 1) from by decide +kernel) rfl
theorem m33_13u : M33 13 [l0, l1, .unset] ((.int v) :: st) H Q = M33 14 [l0, l1, .val (.int v)] st H Q := w_st (i := 2) (p := isI) (show decode kb33 13 = .ok (.istore_n 2, 1) from by decide +kernel) rfl rfl rfl rfl rfl rfl
theorem m33_14 : M33 14 [.val (.ref r), l1, l2] st H Q = M33 15 [.val (.ref r), l1, l2] (.ref r :: st) H Q := w_x (show decode kb33 14 = .ok (.aload_n 0, 1) from by decide +kernel) rfl
theorem m33_15 : M33 15 ls (.ref (b + 1) :: st) (put (b + 1) pre s A post) Q = M33 18 ls (.ref ((b + 1) + 19) :: st) (put (b + 1) pre s A post) Q := w_get (show decode kb33 15 = .ok (.getfield 65, 3) from by decide +kernel) gf_65 put_o rfl
theorem m33_18 : M33 18 [l0, .val (.int v), l2] st H Q = M33 19 [l0, .val (.int v), l2] (.int v :: st) H Q := w_x (show decode kb33 18 = .ok (.iload_n 1, 1) from by decide +kernel) rfl
theorem m33_19 : M33 19 [.val (.ref r), l1, l2] st H Q = M33 20 [.val (.ref r), l1, l2] (.ref r :: st) H Q := w_x (show decode kb33 19 = .ok (.aload_n 0, 1) from by decide +kernel) rfl
theorem m33_20 : M33 20 ls (.ref (b + 1) :: st) (put (b + 1) pre s A post) Q = M33 23 ls (.ref ((b + 1) + 19) :: st) (put (b + 1) pre s A post) Q := w_get (show decode kb33 20 = .ok (.getfield 65, 3) from by decide +kernel) gf_65 put_o rfl
theorem m33_23 : M33 23 [l0, .val (.int v), l2] st H Q = M33 24 [l0, .val (.int v), l2] (.int v :: st) H Q := w_x (show decode kb33 23 = .ok (.iload_n 1, 1) from by decide +kernel) rfl
theorem m33_24  : M33 24 ls (.int j :: .ref ((b + 1) + 19) :: st) (put (b + 1) pre s A post) Q = (inB j (A 18) ∧ M33 25 ls (.int (getA (A 18) j) :: st) (put (b + 1) pre s A post) Q) := w_ild (show decode kb33 24 = .ok (.iaload, 1) from by decide +kernel) rfl put_a18
theorem m33_25 : M33 25 ls st H Q = M33 26 ls (.int 1 :: st) H Q := w_con (show decode kb33 25 = .ok (.iconst 1, 1) from by decide +kernel) rfl (by decide)
theorem m33_26 : M33 26 ls (.int y :: .int x :: st) H Q = M33 27 ls (.int (x + y) :: st) H Q := w_x (show decode kb33 26 = .ok (.iadd, 1) from by decide +kernel) rfl
theorem m33_27  : M33 27 ls (.int v :: .int j :: .ref ((b + 1) + 19) :: st) (put (b + 1) pre s A post) Q = (inB j (A 18) ∧ M33 28 ls st (put (b + 1) pre s (ou A 18 (setA (A 18) j v)) post) Q) := w_ist (show decode kb33 27 = .ok (.iastore, 1) from by decide +kernel) rfl put_a18 (by omega) rfl put_w18
theorem m33_28 : M33 28 [l0, l1, .val (.int v)] st H Q = M33 29 [l0, l1, .val (.int v)] (.int v :: st) H Q := w_x (show decode kb33 28 = .ok (.iload_n 2, 1) from by decide +kernel) rfl
theorem m33_29 : M33 29 [.val (.ref r), l1, l2] st H Q = M33 30 [.val (.ref r), l1, l2] (.ref r :: st) H Q := w_x (show decode kb33 29 = .ok (.aload_n 0, 1) from by decide +kernel) rfl
theorem m33_30 : M33 30 ls (.ref (b + 1) :: st) (put (b + 1) pre s A post) Q = M33 33 ls (.ref ((b + 1) + 20) :: st) (put (b + 1) pre s A post) Q := w_get (show decode kb33 30 = .ok (.getfield 68, 3) from by decide +kernel) gf_68 put_o rfl
theorem m33_33 : M33 33 [l0, .val (.int v), l2] st H Q = M33 34 [l0, .val (.int v), l2] (.int v :: st) H Q := w_x (show decode kb33 33 = .ok (.iload_n 1, 1) from by decide +kernel) rfl
theorem m33_34  : M33 34 ls (.int j :: .ref ((b + 1) + 20) :: st) (put (b + 1) pre s A post) Q = (inB j (A 19) ∧ M33 35 ls (.int (getA (A 19) j) :: st) (put (b + 1) pre s A post) Q) := w_ild (show decode kb33 34 = .ok (.iaload, 1) from by decide +kernel) rfl put_a19
theorem m33_35 : M33 35 ls (.int y :: .int x :: st) H Q = if y < x then M33 38 ls st H Q else M33 45 ls st H Q := w_icmpN (show decode kb33 35 = .ok (.if_icmp .le 10, 3) from by decide +kernel) (i_le x y) rfl
theorem m33_38 : M33 38 [.val (.ref r), l1, l2] st H Q = M33 39 [.val (.ref r), l1, l2] (.ref r :: st) H Q := w_x (show decode kb33 38 = .ok (.aload_n 0, 1) from by decide +kernel) rfl
theorem m33_39 : M33 39 ls (.ref (b + 1) :: st) (put (b + 1) pre s A post) Q = M33 42 ls (.ref ((b + 1) + 20) :: st) (put (b + 1) pre s A post) Q := w_get (show decode kb33 39 = .ok (.getfield 68, 3) from by decide +kernel) gf_68 put_o rfl
theorem m33_42 : M33 42 [l0, .val (.int v), l2] st H Q = M33 43 [l0, .val (.int v), l2] (.int v :: st) H Q := w_x (show decode kb33 42 = .ok (.iload_n 1, 1) from by decide +kernel) rfl
theorem m33_43 : M33 43 [l0, l1, .val (.int v)] st H Q = M33 44 [l0, l1, .val (.int v)] (.int v :: st) H Q := w_x (show decode kb33 43 = .ok (.iload_n 2, 1) from by decide +kernel) rfl
theorem m33_44  : M33 44 ls (.int v :: .int j :: .ref ((b + 1) + 20) :: st) (put (b + 1) pre s A post) Q = (inB j (A 19) ∧ M33 45 ls st (put (b + 1) pre s (ou A 19 (setA (A 19) j v)) post) Q) := w_ist (show decode kb33 44 = .ok (.iastore, 1) from by decide +kernel) rfl put_a19 (by omega) rfl put_w19
theorem m33_45 : M33 45 [.val (.ref r), l1, l2] st H Q = M33 46 [.val (.ref r), l1, l2] (.ref r :: st) H Q := w_x (show decode kb33 45 = .ok (.aload_n 0, 1) from by decide +kernel) rfl
theorem m33_46 : M33 46 ls (.ref (b + 1) :: st) (put (b + 1) pre s A post) Q = M33 49 ls (.ref ((b + 1) + 15) :: st) (put (b + 1) pre s A post) Q := w_get (show decode kb33 46 = .ok (.getfield 52, 3) from by decide +kernel) gf_52 put_o rfl
theorem m33_49 : M33 49 [l0, .val (.int v), l2] st H Q = M33 50 [l0, .val (.int v), l2] (.int v :: st) H Q := w_x (show decode kb33 49 = .ok (.iload_n 1, 1) from by decide +kernel) rfl
theorem m33_50 : M33 50 ls st H Q = M33 51 ls (.int 0 :: st) H Q := w_con (show decode kb33 50 = .ok (.iconst 0, 1) from by decide +kernel) rfl (by decide)
theorem m33_51  : M33 51 ls (.int v :: .int j :: .ref ((b + 1) + 15) :: st) (put (b + 1) pre s A post) Q = (inB j (A 14) ∧ M33 52 ls st (put (b + 1) pre s (ou A 14 (setA (A 14) j (nar .boolean v))) post) Q) := w_ist (show decode kb33 51 = .ok (.bastore, 1) from by decide +kernel) rfl put_a14 (by omega) rfl put_w14
theorem m33_52 : M33 52 [.val (.ref r), l1, l2] st H Q = M33 53 [.val (.ref r), l1, l2] (.ref r :: st) H Q := w_x (show decode kb33 52 = .ok (.aload_n 0, 1) from by decide +kernel) rfl
theorem m33_53 : M33 53 ls (.ref (b + 1) :: st) (put (b + 1) pre s A post) Q = M33 56 ls (.ref ((b + 1) + 18) :: st) (put (b + 1) pre s A post) Q := w_get (show decode kb33 53 = .ok (.getfield 62, 3) from by decide +kernel) gf_62 put_o rfl
theorem m33_56 : M33 56 [l0, .val (.int v), l2] st H Q = M33 57 [l0, .val (.int v), l2] (.int v :: st) H Q := w_x (show decode kb33 56 = .ok (.iload_n 1, 1) from by decide +kernel) rfl
theorem m33_57 : M33 57 ls st H Q = M33 58 ls (.int (-1) :: st) H Q := w_con (show decode kb33 57 = .ok (.iconst (-1), 1) from by decide +kernel) rfl (by decide)
theorem m33_58  : M33 58 ls (.int v :: .int j :: .ref ((b + 1) + 18) :: st) (put (b + 1) pre s A post) Q = (inB j (A 17) ∧ M33 59 ls st (put (b + 1) pre s (ou A 17 (setA (A 17) j v)) post) Q) := w_ist (show decode kb33 58 = .ok (.iastore, 1) from by decide +kernel) rfl put_a17 (by omega) rfl put_w17
theorem m33_59 : M33 59 ls [] H Q = Q none H := w_vret (show decode kb33 59 = .ok (.return_, 1) from by decide +kernel) rfl
theorem m34_0 : M34 0 [.val (.long J1), l1, l2] st H Q = M34 1 [.val (.long J1), l1, l2] (.long J1 :: st) H Q := w_x (show decode kb34 0 = .ok (.lload_n 0, 1) from by decide +kernel) rfl
theorem m34_1 : M34 1 ls st H Q = M34 3 ls (.int 8 :: st) H Q := w_con (show decode kb34 1 = .ok (.bipush 8, 2) from by decide +kernel) rfl (by decide)
theorem m34_3 : M34 3 [l0, l1, .val (.int v)] st H Q = M34 4 [l0, l1, .val (.int v)] (.int v :: st) H Q := w_x (show decode kb34 3 = .ok (.iload_n 2, 1) from by decide +kernel) rfl
theorem m34_4 : M34 4 ls (.int y :: .int x :: st) H Q = M34 5 ls (.int (x * y) :: st) H Q := w_x (show decode kb34 4 = .ok (.imul, 1) from by decide +kernel) rfl
theorem m34_5 : M34 5 ls (.int y :: .long J1 :: st) H Q = M34 6 ls (.long (XT.ushrL J1 y) :: st) H Q := w_x (show decode kb34 5 = .ok (.lushr, 1) from by decide +kernel) rfl
theorem m34_6 : M34 6 ls st H Q = M34 9 ls (.long 255 :: st) H Q := w_ldc2 (show decode kb34 6 = .ok (.ldc2_w 66, 3) from by decide +kernel) (by decide +kernel)
theorem m34_9 : M34 9 ls (.long J2 :: .long J1 :: st) H Q = M34 10 ls (.long (J1 &&& J2) :: st) H Q := w_x (show decode kb34 9 = .ok (.land, 1) from by decide +kernel) rfl
theorem m34_10 : M34 10 ls (.long J1 :: st) H Q = M34 11 ls (.int J1.toInt32 :: st) H Q := w_x (show decode kb34 10 = .ok (.l2i, 1) from by decide +kernel) rfl
theorem m34_11 : M34 11 ls (.int z :: st) H Q = Q (some (.int z)) H := w_iret (show decode kb34 11 = .ok (.ireturn, 1) from by decide +kernel) rfl
theorem m35_0 : M35 0 ls st H Q = M35 1 ls (.int 0 :: st) H Q := w_con (show decode kb35 0 = .ok (.iconst 0, 1) from by decide +kernel) rfl (by decide)
theorem m35_1u : M35 1 [l0, l1, .unset, l3] ((.int v) :: st) H Q = M35 2 [l0, l1, .val (.int v), l3] st H Q := w_st (i := 2) (p := isI) (show decode kb35 1 = .ok (.istore_n 2, 1) from by decide +kernel) rfl rfl rfl rfl rfl rfl
theorem m35_2 : M35 2 [l0, l1, .val (.int v), l3] st H Q = M35 3 [l0, l1, .val (.int v), l3] (.int v :: st) H Q := w_x (show decode kb35 2 = .ok (.iload_n 2, 1) from by decide +kernel) rfl
theorem m35_3 : M35 3 ls st H Q = M35 5 ls (.int 64 :: st) H Q := w_con (show decode kb35 3 = .ok (.bipush 64, 2) from by decide +kernel) rfl (by decide)
theorem m35_5 : M35 5 ls (.int y :: .int x :: st) H Q = if x < y then M35 8 ls st H Q else M35 26 ls st H Q := w_icmpN (show decode kb35 5 = .ok (.if_icmp .ge 21, 3) from by decide +kernel) (i_ge x y) rfl
theorem m35_8 : M35 8 [l0, .val (.int v), l2, l3] st H Q = M35 9 [l0, .val (.int v), l2, l3] (.int v :: st) H Q := w_x (show decode kb35 8 = .ok (.iload_n 1, 1) from by decide +kernel) rfl
theorem m35_9 : M35 9 ls (.int x :: st) H Q = if x = 0 then M35 26 ls st H Q else M35 12 ls st H Q := w_if (show decode kb35 9 = .ok (.ifCond .eq 17, 3) from by decide +kernel) (z_eq x) rfl
theorem m35_12 : M35 12 [.val (.int v), l1, l2, l3] st H Q = M35 13 [.val (.int v), l1, l2, l3] (.int v :: st) H Q := w_x (show decode kb35 12 = .ok (.iload_n 0, 1) from by decide +kernel) rfl
theorem m35_13 : M35 13 [l0, .val (.int v), l2, l3] st H Q = M35 14 [l0, .val (.int v), l2, l3] (.int v :: st) H Q := w_x (show decode kb35 13 = .ok (.iload_n 1, 1) from by decide +kernel) rfl
theorem m35_14 : M35 14 ls (.int y :: .int x :: st) H Q = (y ≠ 0 ∧ M35 15 ls (.int (x % y) :: st) H Q) := w_div (f := fun x y => x % y) (show decode kb35 14 = .ok (.irem, 1) from by decide +kernel) (fun _ => rfl) rfl rfl
theorem m35_15u : M35 15 [l0, l1, l2, .unset] ((.int v) :: st) H Q = M35 16 [l0, l1, l2, .val (.int v)] st H Q := w_st (i := 3) (p := isI) (show decode kb35 15 = .ok (.istore_n 3, 1) from by decide +kernel) rfl rfl rfl rfl rfl rfl
theorem m35_15i : M35 15 [l0, l1, l2, .val (.int z)] ((.int v) :: st) H Q = M35 16 [l0, l1, l2, .val (.int v)] st H Q := w_st (i := 3) (p := isI) (show decode kb35 15 = .ok (.istore_n 3, 1) from by decide +kernel) rfl rfl rfl rfl rfl rfl
theorem m35_15r : M35 15 [l0, l1, l2, .val (.ref q)] ((.int v) :: st) H Q = M35 16 [l0, l1, l2, .val (.int v)] st H Q := w_st (i := 3) (p := isI) (show decode kb35 15 = .ok (.istore_n 3, 1) from by decide +kernel) rfl rfl rfl rfl rfl rfl
theorem m35_15g (h : okS l3) : M35 15 [l0, l1, l2, l3] ((.int v) :: st) H Q = M35 16 [l0, l1, l2, .val (.int v)] st H Q := by rcases h with rfl | ⟨z, rfl⟩ <;> first | exact m35_15u | exact m35_15i
theorem m35_16 : M35 16 [l0, .val (.int v), l2, l3] st H Q = M35 17 [l0, .val (.int v), l2, l3] (.int v :: st) H Q := w_x (show decode kb35 16 = .ok (.iload_n 1, 1) from by decide +kernel) rfl
theorem m35_17i : M35 17 [.val (.int z), l1, l2, l3] ((.int v) :: st) H Q = M35 18 [.val (.int v), l1, l2, l3] st H Q := w_st (i := 0) (p := isI) (show decode kb35 17 = .ok (.istore_n 0, 1) from by decide +kernel) rfl rfl rfl rfl rfl rfl
theorem m35_18 : M35 18 [l0, l1, l2, .val (.int v)] st H Q = M35 19 [l0, l1, l2, .val (.int v)] (.int v :: st) H Q := w_x (show decode kb35 18 = .ok (.iload_n 3, 1) from by decide +kernel) rfl
theorem m35_19i : M35 19 [l0, .val (.int z), l2, l3] ((.int v) :: st) H Q = M35 20 [l0, .val (.int v), l2, l3] st H Q := w_st (i := 1) (p := isI) (show decode kb35 19 = .ok (.istore_n 1, 1) from by decide +kernel) rfl rfl rfl rfl rfl rfl
theorem m35_20 : M35 20 [l0, l1, .val (.int v), l3] st H Q = M35 23 [l0, l1, .val (.int (v + 1)), l3] st H Q := w_iinc (show decode kb35 20 = .ok (.iinc 2 1, 3) from by decide +kernel) rfl (by decide) rfl
theorem m35_23 : M35 23 ls st H Q = M35 2 ls st H Q := w_x (show decode kb35 23 = .ok (.goto (-21), 3) from by decide +kernel) rfl
theorem m35_26 : M35 26 [.val (.int v), l1, l2, l3] st H Q = M35 27 [.val (.int v), l1, l2, l3] (.int v :: st) H Q := w_x (show decode kb35 26 = .ok (.iload_n 0, 1) from by decide +kernel) rfl
theorem m35_27 : M35 27 ls (.int z :: st) H Q = Q (some (.int z)) H := w_iret (show decode kb35 27 = .ok (.ireturn, 1) from by decide +kernel) rfl
theorem m36_0 : M36 0 [.val (.long J1), l1, l2, l3] st H Q = M36 1 [.val (.long J1), l1, l2, l3] (.long J1 :: st) H Q := w_x (show decode kb36 0 = .ok (.lload_n 0, 1) from by decide +kernel) rfl
theorem m36_1 : M36 1 ls st H Q = M36 4 ls (.long 255 :: st) H Q := w_ldc2 (show decode kb36 1 = .ok (.ldc2_w 66, 3) from by decide +kernel) (by decide +kernel)
theorem m36_4 : M36 4 ls st H Q = M36 6 ls (.int 8 :: st) H Q := w_con (show decode kb36 4 = .ok (.bipush 8, 2) from by decide +kernel) rfl (by decide)
theorem m36_6 : M36 6 [l0, l1, .val (.int v), l3] st H Q = M36 7 [l0, l1, .val (.int v), l3] (.int v :: st) H Q := w_x (show decode kb36 6 = .ok (.iload_n 2, 1) from by decide +kernel) rfl
theorem m36_7 : M36 7 ls (.int y :: .int x :: st) H Q = M36 8 ls (.int (x * y) :: st) H Q := w_x (show decode kb36 7 = .ok (.imul, 1) from by decide +kernel) rfl
theorem m36_8 : M36 8 ls (.int y :: .long J1 :: st) H Q = M36 9 ls (.long (J1 <<< (y.toInt64 &&& 63)) :: st) H Q := w_x (show decode kb36 8 = .ok (.lshl, 1) from by decide +kernel) rfl
theorem m36_9 : M36 9 ls st H Q = M36 12 ls (.long (-1) :: st) H Q := w_ldc2 (show decode kb36 9 = .ok (.ldc2_w 68, 3) from by decide +kernel) (by decide +kernel)
theorem m36_12 : M36 12 ls (.long J2 :: .long J1 :: st) H Q = M36 13 ls (.long (J1 ^^^ J2) :: st) H Q := w_x (show decode kb36 12 = .ok (.lxor, 1) from by decide +kernel) rfl
theorem m36_13 : M36 13 ls (.long J2 :: .long J1 :: st) H Q = M36 14 ls (.long (J1 &&& J2) :: st) H Q := w_x (show decode kb36 13 = .ok (.land, 1) from by decide +kernel) rfl
theorem m36_14 : M36 14 [l0, l1, l2, .val (.int v)] st H Q = M36 15 [l0, l1, l2, .val (.int v)] (.int v :: st) H Q := w_x (show decode kb36 14 = .ok (.iload_n 3, 1) from by decide +kernel) rfl
theorem m36_15 : M36 15 ls (.int x :: st) H Q = M36 16 ls (.long x.toInt64 :: st) H Q := w_x (show decode kb36 15 = .ok (.i2l, 1) from by decide +kernel) rfl
theorem m36_16 : M36 16 ls st H Q = M36 18 ls (.int 8 :: st) H Q := w_con (show decode kb36 16 = .ok (.bipush 8, 2) from by decide +kernel) rfl (by decide)
theorem m36_18 : M36 18 [l0, l1, .val (.int v), l3] st H Q = M36 19 [l0, l1, .val (.int v), l3] (.int v :: st) H Q := w_x (show decode kb36 18 = .ok (.iload_n 2, 1) from by decide +kernel) rfl
theorem m36_19 : M36 19 ls (.int y :: .int x :: st) H Q = M36 20 ls (.int (x * y) :: st) H Q := w_x (show decode kb36 19 = .ok (.imul, 1) from by decide +kernel) rfl
theorem m36_20 : M36 20 ls (.int y :: .long J1 :: st) H Q = M36 21 ls (.long (J1 <<< (y.toInt64 &&& 63)) :: st) H Q := w_x (show decode kb36 20 = .ok (.lshl, 1) from by decide +kernel) rfl
theorem m36_21 : M36 21 ls (.long J2 :: .long J1 :: st) H Q = M36 22 ls (.long (J1 ||| J2) :: st) H Q := w_x (show decode kb36 21 = .ok (.lor, 1) from by decide +kernel) rfl
theorem m36_22 : M36 22 ls [.long J1] H Q = Q (some (.long J1)) H := w_lret (show decode kb36 22 = .ok (.lreturn, 1) from by decide +kernel) rfl
theorem m37_0 : M37 0 [.val (.ref r), l1, l2, l3, l4, l5, l6, l7, l8, l9, l10, l11, l12, l13, l14, l15, l16, l17, l18, l19, l20, l21, l22, l23, l24, l25, l26, l27, l28, l29, l30, l31, l32] st H Q = M37 1 [.val (.ref r), l1, l2, l3, l4, l5, l6, l7, l8, l9, l10, l11, l12, l13, l14, l15, l16, l17, l18, l19, l20, l21, l22, l23, l24, l25, l26, l27, l28, l29, l30, l31, l32] (.ref r :: st) H Q := w_x at_0 rfl
theorem m37_1 : M37 1 ls (.ref 0 :: st) ((.array .int, sc.map Value.int) :: R) Q = M37 2 ls (.int sc.length.toInt32 :: st) ((.array .int, sc.map Value.int) :: R) Q := by exact (w_len at_1 rfl).trans (by rw [List.length_map]; rfl)
theorem m37_1p : M37 1 ls (.ref 0 :: st) (put (b + 1) ((.array .int, sc.map Value.int) :: pre) s A post) Q = M37 2 ls (.int sc.length.toInt32 :: st) (put (b + 1) ((.array .int, sc.map Value.int) :: pre) s A post) Q := by exact (w_len at_1 rfl).trans (by rw [List.length_map]; rfl)
theorem m37_2 : M37 2 ls (.int x :: st) H Q = if 0 < x then M37 5 ls st H Q else M37 11 ls st H Q := w_ifN at_2 (z_le x) rfl
theorem m37_5 : M37 5 [.val (.ref r), l1, l2, l3, l4, l5, l6, l7, l8, l9, l10, l11, l12, l13, l14, l15, l16, l17, l18, l19, l20, l21, l22, l23, l24, l25, l26, l27, l28, l29, l30, l31, l32] st H Q = M37 6 [.val (.ref r), l1, l2, l3, l4, l5, l6, l7, l8, l9, l10, l11, l12, l13, l14, l15, l16, l17, l18, l19, l20, l21, l22, l23, l24, l25, l26, l27, l28, l29, l30, l31, l32] (.ref r :: st) H Q := w_x at_5 rfl
theorem m37_6 : M37 6 ls st H Q = M37 7 ls (.int 0 :: st) H Q := w_con at_6 rfl (by decide)
theorem m37_7 : M37 7 ls (.int j :: .ref 0 :: st) ((.array .int, sc.map Value.int) :: R) Q = (inB j sc ∧ M37 8 ls (.int (getA sc j) :: st) ((.array .int, sc.map Value.int) :: R) Q) := w_ild at_7 rfl rfl
theorem m37_7p : M37 7 ls (.int j :: .ref 0 :: st) (put (b + 1) ((.array .int, sc.map Value.int) :: pre) s A post) Q = (inB j sc ∧ M37 8 ls (.int (getA sc j) :: st) (put (b + 1) ((.array .int, sc.map Value.int) :: pre) s A post) Q) := w_ild at_7 rfl rfl
theorem m37_8 : M37 8 ls st H Q = M37 12 ls st H Q := w_x at_8 rfl
theorem m37_11 : M37 11 ls st H Q = M37 12 ls (.int 4 :: st) H Q := w_con at_11 rfl (by decide)
theorem m37_12u : M37 12 [l0, .unset, l2, l3, l4, l5, l6, l7, l8, l9, l10, l11, l12, l13, l14, l15, l16, l17, l18, l19, l20, l21, l22, l23, l24, l25, l26, l27, l28, l29, l30, l31, l32] ((.int v) :: st) H Q = M37 13 [l0, .val (.int v), l2, l3, l4, l5, l6, l7, l8, l9, l10, l11, l12, l13, l14, l15, l16, l17, l18, l19, l20, l21, l22, l23, l24, l25, l26, l27, l28, l29, l30, l31, l32] st H Q := w_st (i := 1) (p := isI) at_12 rfl rfl rfl rfl rfl rfl
theorem m37_13 : M37 13 ls st H Q = M37 16 ls (.ref H.length :: st) (H ++ [(.object "ResponseTimeGate", D0)]) Q := (w_new (C := "ResponseTimeGate") at_13 (by rw [hNew, show rCls tables_1 y37.cls 7 = some "ResponseTimeGate" from by decide +kernel]; dsimp only; rw [if_pos (by decide +kernel)])).trans (by rw [lay0]; rfl)
theorem m37_16 : M37 16 ls ((.ref r) :: st) H Q = M37 17 ls ((.ref r) :: (.ref r) :: st) H Q := w_x at_16 rfl
theorem m37_17 : M37 17 [l0, .val (.int v), l2, l3, l4, l5, l6, l7, l8, l9, l10, l11, l12, l13, l14, l15, l16, l17, l18, l19, l20, l21, l22, l23, l24, l25, l26, l27, l28, l29, l30, l31, l32] st H Q = M37 18 [l0, .val (.int v), l2, l3, l4, l5, l6, l7, l8, l9, l10, l11, l12, l13, l14, l15, l16, l17, l18, l19, l20, l21, l22, l23, l24, l25, l26, l27, l28, l29, l30, l31, l32] (.int v :: st) H Q := w_x at_17 rfl
theorem cr37_9 : nR tables_1 dn y37 9 = some (y0, prog_1_method_1_code, 4, none, 1, 42) := nR_of (cR_of (by decide +kernel) rc_0 dn_0 dn_37 (sig := ⟨[.int], none⟩) (by decide +kernel) (by decide +kernel) rfl rfl) rfl (by decide +kernel) rfl
theorem cr37_9_o : oR tables_1 dn y37 9 = none := by decide +kernel
theorem m37_18 (a0 : Int32) (u0 : Nat) : M37 18 ls [.int a0, .ref r, .ref u0] H Q = M0 0 [.val (.ref r), .val (.int a0), .unset, .unset] [] H (fun v H1 => M37 21 ls (v.toList ++ [.ref u0]) H1 Q) := w_spec (as := [.int a0]) (rest := [.ref u0]) (a := r) at_18 cr37_9_o cr37_9 rfl (Nat.le_of_ble_eq_true rfl) (by show 2 ≤ 4; omega) rfl
theorem m37_21u : M37 21 [l0, l1, .unset, l3, l4, l5, l6, l7, l8, l9, l10, l11, l12, l13, l14, l15, l16, l17, l18, l19, l20, l21, l22, l23, l24, l25, l26, l27, l28, l29, l30, l31, l32] ((.ref r) :: st) H Q = M37 22 [l0, l1, .val (.ref r), l3, l4, l5, l6, l7, l8, l9, l10, l11, l12, l13, l14, l15, l16, l17, l18, l19, l20, l21, l22, l23, l24, l25, l26, l27, l28, l29, l30, l31, l32] st H Q := w_st (i := 2) (p := Value.isRef) at_21 rfl rfl rfl rfl rfl rfl
theorem m37_22 : M37 22 [l0, .val (.int v), l2, l3, l4, l5, l6, l7, l8, l9, l10, l11, l12, l13, l14, l15, l16, l17, l18, l19, l20, l21, l22, l23, l24, l25, l26, l27, l28, l29, l30, l31, l32] st H Q = M37 23 [l0, .val (.int v), l2, l3, l4, l5, l6, l7, l8, l9, l10, l11, l12, l13, l14, l15, l16, l17, l18, l19, l20, l21, l22, l23, l24, l25, l26, l27, l28, l29, l30, l31, l32] (.int v :: st) H Q := w_x at_22 rfl
theorem m37_23 : M37 23 ls st H Q = M37 24 ls (.int 1 :: st) H Q := w_con at_23 rfl (by decide)
theorem m37_24 : M37 24 ls (.int y :: .int x :: st) H Q = if x < y then M37 27 ls st H Q else M37 31 ls st H Q := w_icmpN at_24 (i_ge x y) rfl
theorem m37_27 : M37 27 ls st H Q = M37 28 ls (.int 1 :: st) H Q := w_con at_27 rfl (by decide)
theorem m37_28 : M37 28 ls st H Q = M37 43 ls st H Q := w_x at_28 rfl
theorem m37_31 : M37 31 [l0, .val (.int v), l2, l3, l4, l5, l6, l7, l8, l9, l10, l11, l12, l13, l14, l15, l16, l17, l18, l19, l20, l21, l22, l23, l24, l25, l26, l27, l28, l29, l30, l31, l32] st H Q = M37 32 [l0, .val (.int v), l2, l3, l4, l5, l6, l7, l8, l9, l10, l11, l12, l13, l14, l15, l16, l17, l18, l19, l20, l21, l22, l23, l24, l25, l26, l27, l28, l29, l30, l31, l32] (.int v :: st) H Q := w_x at_31 rfl
theorem m37_32 : M37 32 ls st H Q = M37 34 ls (.int 8 :: st) H Q := w_con at_32 rfl (by decide)
theorem m37_34 : M37 34 ls (.int y :: .int x :: st) H Q = if y < x then M37 37 ls st H Q else M37 42 ls st H Q := w_icmpN at_34 (i_le x y) rfl
theorem m37_37 : M37 37 ls st H Q = M37 39 ls (.int 8 :: st) H Q := w_con at_37 rfl (by decide)
theorem m37_39 : M37 39 ls st H Q = M37 43 ls st H Q := w_x at_39 rfl
theorem m37_42 : M37 42 [l0, .val (.int v), l2, l3, l4, l5, l6, l7, l8, l9, l10, l11, l12, l13, l14, l15, l16, l17, l18, l19, l20, l21, l22, l23, l24, l25, l26, l27, l28, l29, l30, l31, l32] st H Q = M37 43 [l0, .val (.int v), l2, l3, l4, l5, l6, l7, l8, l9, l10, l11, l12, l13, l14, l15, l16, l17, l18, l19, l20, l21, l22, l23, l24, l25, l26, l27, l28, l29, l30, l31, l32] (.int v :: st) H Q := w_x at_42 rfl
theorem m37_43u : M37 43 [l0, l1, l2, .unset, l4, l5, l6, l7, l8, l9, l10, l11, l12, l13, l14, l15, l16, l17, l18, l19, l20, l21, l22, l23, l24, l25, l26, l27, l28, l29, l30, l31, l32] ((.int v) :: st) H Q = M37 44 [l0, l1, l2, .val (.int v), l4, l5, l6, l7, l8, l9, l10, l11, l12, l13, l14, l15, l16, l17, l18, l19, l20, l21, l22, l23, l24, l25, l26, l27, l28, l29, l30, l31, l32] st H Q := w_st (i := 3) (p := isI) at_43 rfl rfl rfl rfl rfl rfl
theorem m37_44 : M37 44 ls st H Q = M37 45 ls (.int 0 :: st) H Q := w_con at_44 rfl (by decide)
theorem m37_45u : M37 45 [l0, l1, l2, l3, .unset, l5, l6, l7, l8, l9, l10, l11, l12, l13, l14, l15, l16, l17, l18, l19, l20, l21, l22, l23, l24, l25, l26, l27, l28, l29, l30, l31, l32] ((.int v) :: st) H Q = M37 47 [l0, l1, l2, l3, .val (.int v), l5, l6, l7, l8, l9, l10, l11, l12, l13, l14, l15, l16, l17, l18, l19, l20, l21, l22, l23, l24, l25, l26, l27, l28, l29, l30, l31, l32] st H Q := w_st (i := 4) (p := isI) at_45 rfl rfl rfl rfl rfl rfl
theorem m37_47 : M37 47 ls st H Q = M37 48 ls (.int 1 :: st) H Q := w_con at_47 rfl (by decide)
theorem m37_48u : M37 48 [l0, l1, l2, l3, l4, .unset, l6, l7, l8, l9, l10, l11, l12, l13, l14, l15, l16, l17, l18, l19, l20, l21, l22, l23, l24, l25, l26, l27, l28, l29, l30, l31, l32] ((.int v) :: st) H Q = M37 50 [l0, l1, l2, l3, l4, .val (.int v), l6, l7, l8, l9, l10, l11, l12, l13, l14, l15, l16, l17, l18, l19, l20, l21, l22, l23, l24, l25, l26, l27, l28, l29, l30, l31, l32] st H Q := w_st (i := 5) (p := isI) at_48 rfl rfl rfl rfl rfl rfl
theorem m37_50 : M37 50 ls st H Q = M37 51 ls (.int 0 :: st) H Q := w_con at_50 rfl (by decide)
theorem m37_51u : M37 51 [l0, l1, l2, l3, l4, l5, .unset, l7, l8, l9, l10, l11, l12, l13, l14, l15, l16, l17, l18, l19, l20, l21, l22, l23, l24, l25, l26, l27, l28, l29, l30, l31, l32] ((.int v) :: st) H Q = M37 53 [l0, l1, l2, l3, l4, l5, .val (.int v), l7, l8, l9, l10, l11, l12, l13, l14, l15, l16, l17, l18, l19, l20, l21, l22, l23, l24, l25, l26, l27, l28, l29, l30, l31, l32] st H Q := w_st (i := 6) (p := isI) at_51 rfl rfl rfl rfl rfl rfl
theorem m37_53 : M37 53 ls st H Q = M37 54 ls (.int (-1) :: st) H Q := w_con at_53 rfl (by decide)
theorem m37_54u : M37 54 [l0, l1, l2, l3, l4, l5, l6, .unset, l8, l9, l10, l11, l12, l13, l14, l15, l16, l17, l18, l19, l20, l21, l22, l23, l24, l25, l26, l27, l28, l29, l30, l31, l32] ((.int v) :: st) H Q = M37 56 [l0, l1, l2, l3, l4, l5, l6, .val (.int v), l8, l9, l10, l11, l12, l13, l14, l15, l16, l17, l18, l19, l20, l21, l22, l23, l24, l25, l26, l27, l28, l29, l30, l31, l32] st H Q := w_st (i := 7) (p := isI) at_54 rfl rfl rfl rfl rfl rfl
theorem m37_56 : M37 56 ls st H Q = M37 57 ls (.int 0 :: st) H Q := w_con at_56 rfl (by decide)
theorem m37_57u : M37 57 [l0, l1, l2, l3, l4, l5, l6, l7, .unset, l9, l10, l11, l12, l13, l14, l15, l16, l17, l18, l19, l20, l21, l22, l23, l24, l25, l26, l27, l28, l29, l30, l31, l32] ((.int v) :: st) H Q = M37 59 [l0, l1, l2, l3, l4, l5, l6, l7, .val (.int v), l9, l10, l11, l12, l13, l14, l15, l16, l17, l18, l19, l20, l21, l22, l23, l24, l25, l26, l27, l28, l29, l30, l31, l32] st H Q := w_st (i := 8) (p := isI) at_57 rfl rfl rfl rfl rfl rfl
theorem m37_59 : M37 59 ls st H Q = M37 60 ls (.int 0 :: st) H Q := w_con at_59 rfl (by decide)
theorem m37_60u : M37 60 [l0, l1, l2, l3, l4, l5, l6, l7, l8, .unset, l10, l11, l12, l13, l14, l15, l16, l17, l18, l19, l20, l21, l22, l23, l24, l25, l26, l27, l28, l29, l30, l31, l32] ((.int v) :: st) H Q = M37 62 [l0, l1, l2, l3, l4, l5, l6, l7, l8, .val (.int v), l10, l11, l12, l13, l14, l15, l16, l17, l18, l19, l20, l21, l22, l23, l24, l25, l26, l27, l28, l29, l30, l31, l32] st H Q := w_st (i := 9) (p := isI) at_60 rfl rfl rfl rfl rfl rfl
theorem m37_62 : M37 62 ls st H Q = M37 63 ls (.int 1 :: st) H Q := w_con at_62 rfl (by decide)
theorem m37_63u : M37 63 [l0, l1, l2, l3, l4, l5, l6, l7, l8, l9, .unset, l11, l12, l13, l14, l15, l16, l17, l18, l19, l20, l21, l22, l23, l24, l25, l26, l27, l28, l29, l30, l31, l32] ((.int v) :: st) H Q = M37 65 [l0, l1, l2, l3, l4, l5, l6, l7, l8, l9, .val (.int v), l11, l12, l13, l14, l15, l16, l17, l18, l19, l20, l21, l22, l23, l24, l25, l26, l27, l28, l29, l30, l31, l32] st H Q := w_st (i := 10) (p := isI) at_63 rfl rfl rfl rfl rfl rfl
theorem m37_65 : M37 65 ls st H Q = M37 66 ls (.int 0 :: st) H Q := w_con at_65 rfl (by decide)
theorem m37_66u : M37 66 [l0, l1, l2, l3, l4, l5, l6, l7, l8, l9, l10, .unset, l12, l13, l14, l15, l16, l17, l18, l19, l20, l21, l22, l23, l24, l25, l26, l27, l28, l29, l30, l31, l32] ((.int v) :: st) H Q = M37 68 [l0, l1, l2, l3, l4, l5, l6, l7, l8, l9, l10, .val (.int v), l12, l13, l14, l15, l16, l17, l18, l19, l20, l21, l22, l23, l24, l25, l26, l27, l28, l29, l30, l31, l32] st H Q := w_st (i := 11) (p := isI) at_66 rfl rfl rfl rfl rfl rfl
theorem m37_68 : M37 68 ls st H Q = M37 69 ls (.int 0 :: st) H Q := w_con at_68 rfl (by decide)
theorem m37_69u : M37 69 [l0, l1, l2, l3, l4, l5, l6, l7, l8, l9, l10, l11, .unset, l13, l14, l15, l16, l17, l18, l19, l20, l21, l22, l23, l24, l25, l26, l27, l28, l29, l30, l31, l32] ((.int v) :: st) H Q = M37 71 [l0, l1, l2, l3, l4, l5, l6, l7, l8, l9, l10, l11, .val (.int v), l13, l14, l15, l16, l17, l18, l19, l20, l21, l22, l23, l24, l25, l26, l27, l28, l29, l30, l31, l32] st H Q := w_st (i := 12) (p := isI) at_69 rfl rfl rfl rfl rfl rfl
theorem m37_71 : M37 71 ls st H Q = M37 72 ls (.long 0 :: st) H Q := w_con at_71 rfl (by decide)
theorem m37_72 : M37 72 [l0, l1, l2, l3, l4, l5, l6, l7, l8, l9, l10, l11, l12, .unset, .unset, l15, l16, l17, l18, l19, l20, l21, l22, l23, l24, l25, l26, l27, l28, l29, l30, l31, l32] (.long J1 :: st) H Q = M37 74 [l0, l1, l2, l3, l4, l5, l6, l7, l8, l9, l10, l11, l12, .val (.long J1), .second, l15, l16, l17, l18, l19, l20, l21, l22, l23, l24, l25, l26, l27, l28, l29, l30, l31, l32] st H Q := w_x at_72 rfl
theorem m37_74 : M37 74 ls st H Q = M37 75 ls (.long 0 :: st) H Q := w_con at_74 rfl (by decide)
theorem m37_75 : M37 75 [l0, l1, l2, l3, l4, l5, l6, l7, l8, l9, l10, l11, l12, l13, l14, .unset, .unset, l17, l18, l19, l20, l21, l22, l23, l24, l25, l26, l27, l28, l29, l30, l31, l32] (.long J1 :: st) H Q = M37 77 [l0, l1, l2, l3, l4, l5, l6, l7, l8, l9, l10, l11, l12, l13, l14, .val (.long J1), .second, l17, l18, l19, l20, l21, l22, l23, l24, l25, l26, l27, l28, l29, l30, l31, l32] st H Q := w_x at_75 rfl
theorem m37_77 : M37 77 ls st H Q = M37 78 ls (.long 0 :: st) H Q := w_con at_77 rfl (by decide)
theorem m37_78 : M37 78 [l0, l1, l2, l3, l4, l5, l6, l7, l8, l9, l10, l11, l12, l13, l14, l15, l16, .unset, .unset, l19, l20, l21, l22, l23, l24, l25, l26, l27, l28, l29, l30, l31, l32] (.long J1 :: st) H Q = M37 80 [l0, l1, l2, l3, l4, l5, l6, l7, l8, l9, l10, l11, l12, l13, l14, l15, l16, .val (.long J1), .second, l19, l20, l21, l22, l23, l24, l25, l26, l27, l28, l29, l30, l31, l32] st H Q := w_x at_78 rfl
theorem m37_80 : M37 80 ls st H Q = M37 81 ls (.long 0 :: st) H Q := w_con at_80 rfl (by decide)
theorem m37_81 : M37 81 [l0, l1, l2, l3, l4, l5, l6, l7, l8, l9, l10, l11, l12, l13, l14, l15, l16, l17, l18, .unset, .unset, l21, l22, l23, l24, l25, l26, l27, l28, l29, l30, l31, l32] (.long J1 :: st) H Q = M37 83 [l0, l1, l2, l3, l4, l5, l6, l7, l8, l9, l10, l11, l12, l13, l14, l15, l16, l17, l18, .val (.long J1), .second, l21, l22, l23, l24, l25, l26, l27, l28, l29, l30, l31, l32] st H Q := w_x at_81 rfl
theorem m37_83 : M37 83 ls st H Q = M37 84 ls (.int 1 :: st) H Q := w_con at_83 rfl (by decide)
theorem m37_84u : M37 84 [l0, l1, l2, l3, l4, l5, l6, l7, l8, l9, l10, l11, l12, l13, l14, l15, l16, l17, l18, l19, l20, .unset, l22, l23, l24, l25, l26, l27, l28, l29, l30, l31, l32] ((.int v) :: st) H Q = M37 86 [l0, l1, l2, l3, l4, l5, l6, l7, l8, l9, l10, l11, l12, l13, l14, l15, l16, l17, l18, l19, l20, .val (.int v), l22, l23, l24, l25, l26, l27, l28, l29, l30, l31, l32] st H Q := w_st (i := 21) (p := isI) at_84 rfl rfl rfl rfl rfl rfl
theorem m37_86 : M37 86 [l0, l1, l2, l3, l4, l5, l6, l7, l8, l9, l10, l11, l12, l13, l14, l15, l16, l17, l18, l19, l20, .val (.int v), l22, l23, l24, l25, l26, l27, l28, l29, l30, l31, l32] st H Q = M37 88 [l0, l1, l2, l3, l4, l5, l6, l7, l8, l9, l10, l11, l12, l13, l14, l15, l16, l17, l18, l19, l20, .val (.int v), l22, l23, l24, l25, l26, l27, l28, l29, l30, l31, l32] (.int v :: st) H Q := w_x at_86 rfl
theorem m37_88 : M37 88 ls st H Q = M37 89 ls (.int 4 :: st) H Q := w_con at_88 rfl (by decide)
theorem m37_89 : M37 89 ls (.int y :: .int x :: st) H Q = M37 90 ls (.int (x + y) :: st) H Q := w_x at_89 rfl
theorem m37_90 : M37 90 [.val (.ref r), l1, l2, l3, l4, l5, l6, l7, l8, l9, l10, l11, l12, l13, l14, l15, l16, l17, l18, l19, l20, l21, l22, l23, l24, l25, l26, l27, l28, l29, l30, l31, l32] st H Q = M37 91 [.val (.ref r), l1, l2, l3, l4, l5, l6, l7, l8, l9, l10, l11, l12, l13, l14, l15, l16, l17, l18, l19, l20, l21, l22, l23, l24, l25, l26, l27, l28, l29, l30, l31, l32] (.ref r :: st) H Q := w_x at_90 rfl
theorem m37_91 : M37 91 ls (.ref 0 :: st) ((.array .int, sc.map Value.int) :: R) Q = M37 92 ls (.int sc.length.toInt32 :: st) ((.array .int, sc.map Value.int) :: R) Q := by exact (w_len at_91 rfl).trans (by rw [List.length_map]; rfl)
theorem m37_91p : M37 91 ls (.ref 0 :: st) (put (b + 1) ((.array .int, sc.map Value.int) :: pre) s A post) Q = M37 92 ls (.int sc.length.toInt32 :: st) (put (b + 1) ((.array .int, sc.map Value.int) :: pre) s A post) Q := by exact (w_len at_91 rfl).trans (by rw [List.length_map]; rfl)
theorem m37_92 : M37 92 ls (.int y :: .int x :: st) H Q = if x < y then M37 95 ls st H Q else M37 886 ls st H Q := w_icmpN at_92 (i_ge x y) rfl
theorem m37_95 : M37 95 [.val (.ref r), l1, l2, l3, l4, l5, l6, l7, l8, l9, l10, l11, l12, l13, l14, l15, l16, l17, l18, l19, l20, l21, l22, l23, l24, l25, l26, l27, l28, l29, l30, l31, l32] st H Q = M37 96 [.val (.ref r), l1, l2, l3, l4, l5, l6, l7, l8, l9, l10, l11, l12, l13, l14, l15, l16, l17, l18, l19, l20, l21, l22, l23, l24, l25, l26, l27, l28, l29, l30, l31, l32] (.ref r :: st) H Q := w_x at_95 rfl
theorem m37_96 : M37 96 [l0, l1, l2, l3, l4, l5, l6, l7, l8, l9, l10, l11, l12, l13, l14, l15, l16, l17, l18, l19, l20, .val (.int v), l22, l23, l24, l25, l26, l27, l28, l29, l30, l31, l32] st H Q = M37 98 [l0, l1, l2, l3, l4, l5, l6, l7, l8, l9, l10, l11, l12, l13, l14, l15, l16, l17, l18, l19, l20, .val (.int v), l22, l23, l24, l25, l26, l27, l28, l29, l30, l31, l32] (.int v :: st) H Q := w_x at_96 rfl
theorem m37_98 : M37 98 ls (.int j :: .ref 0 :: st) ((.array .int, sc.map Value.int) :: R) Q = (inB j sc ∧ M37 99 ls (.int (getA sc j) :: st) ((.array .int, sc.map Value.int) :: R) Q) := w_ild at_98 rfl rfl
theorem m37_98p : M37 98 ls (.int j :: .ref 0 :: st) (put (b + 1) ((.array .int, sc.map Value.int) :: pre) s A post) Q = (inB j sc ∧ M37 99 ls (.int (getA sc j) :: st) (put (b + 1) ((.array .int, sc.map Value.int) :: pre) s A post) Q) := w_ild at_98 rfl rfl
theorem m37_99 : M37 99 ls st H Q = M37 100 ls (.int 3 :: st) H Q := w_con at_99 rfl (by decide)
theorem m37_100 : M37 100 ls (.int y :: .int x :: st) H Q = M37 101 ls (.int (x &&& y) :: st) H Q := w_x at_100 rfl
theorem m37_101u : M37 101 [l0, l1, l2, l3, l4, l5, l6, l7, l8, l9, l10, l11, l12, l13, l14, l15, l16, l17, l18, l19, l20, l21, .unset, l23, l24, l25, l26, l27, l28, l29, l30, l31, l32] ((.int v) :: st) H Q = M37 103 [l0, l1, l2, l3, l4, l5, l6, l7, l8, l9, l10, l11, l12, l13, l14, l15, l16, l17, l18, l19, l20, l21, .val (.int v), l23, l24, l25, l26, l27, l28, l29, l30, l31, l32] st H Q := w_st (i := 22) (p := isI) at_101 rfl rfl rfl rfl rfl rfl
theorem m37_101i : M37 101 [l0, l1, l2, l3, l4, l5, l6, l7, l8, l9, l10, l11, l12, l13, l14, l15, l16, l17, l18, l19, l20, l21, .val (.int z), l23, l24, l25, l26, l27, l28, l29, l30, l31, l32] ((.int v) :: st) H Q = M37 103 [l0, l1, l2, l3, l4, l5, l6, l7, l8, l9, l10, l11, l12, l13, l14, l15, l16, l17, l18, l19, l20, l21, .val (.int v), l23, l24, l25, l26, l27, l28, l29, l30, l31, l32] st H Q := w_st (i := 22) (p := isI) at_101 rfl rfl rfl rfl rfl rfl
theorem m37_101r : M37 101 [l0, l1, l2, l3, l4, l5, l6, l7, l8, l9, l10, l11, l12, l13, l14, l15, l16, l17, l18, l19, l20, l21, .val (.ref q), l23, l24, l25, l26, l27, l28, l29, l30, l31, l32] ((.int v) :: st) H Q = M37 103 [l0, l1, l2, l3, l4, l5, l6, l7, l8, l9, l10, l11, l12, l13, l14, l15, l16, l17, l18, l19, l20, l21, .val (.int v), l23, l24, l25, l26, l27, l28, l29, l30, l31, l32] st H Q := w_st (i := 22) (p := isI) at_101 rfl rfl rfl rfl rfl rfl
theorem m37_101g (h : okS l22) : M37 101 [l0, l1, l2, l3, l4, l5, l6, l7, l8, l9, l10, l11, l12, l13, l14, l15, l16, l17, l18, l19, l20, l21, l22, l23, l24, l25, l26, l27, l28, l29, l30, l31, l32] ((.int v) :: st) H Q = M37 103 [l0, l1, l2, l3, l4, l5, l6, l7, l8, l9, l10, l11, l12, l13, l14, l15, l16, l17, l18, l19, l20, l21, .val (.int v), l23, l24, l25, l26, l27, l28, l29, l30, l31, l32] st H Q := by rcases h with rfl | ⟨z, rfl⟩ <;> first | exact m37_101u | exact m37_101i
theorem m37_103 : M37 103 [.val (.ref r), l1, l2, l3, l4, l5, l6, l7, l8, l9, l10, l11, l12, l13, l14, l15, l16, l17, l18, l19, l20, l21, l22, l23, l24, l25, l26, l27, l28, l29, l30, l31, l32] st H Q = M37 104 [.val (.ref r), l1, l2, l3, l4, l5, l6, l7, l8, l9, l10, l11, l12, l13, l14, l15, l16, l17, l18, l19, l20, l21, l22, l23, l24, l25, l26, l27, l28, l29, l30, l31, l32] (.ref r :: st) H Q := w_x at_103 rfl
theorem m37_104 : M37 104 [l0, l1, l2, l3, l4, l5, l6, l7, l8, l9, l10, l11, l12, l13, l14, l15, l16, l17, l18, l19, l20, .val (.int v), l22, l23, l24, l25, l26, l27, l28, l29, l30, l31, l32] st H Q = M37 106 [l0, l1, l2, l3, l4, l5, l6, l7, l8, l9, l10, l11, l12, l13, l14, l15, l16, l17, l18, l19, l20, .val (.int v), l22, l23, l24, l25, l26, l27, l28, l29, l30, l31, l32] (.int v :: st) H Q := w_x at_104 rfl
theorem m37_106 : M37 106 ls st H Q = M37 107 ls (.int 1 :: st) H Q := w_con at_106 rfl (by decide)
theorem m37_107 : M37 107 ls (.int y :: .int x :: st) H Q = M37 108 ls (.int (x + y) :: st) H Q := w_x at_107 rfl
theorem m37_108 : M37 108 ls (.int j :: .ref 0 :: st) ((.array .int, sc.map Value.int) :: R) Q = (inB j sc ∧ M37 109 ls (.int (getA sc j) :: st) ((.array .int, sc.map Value.int) :: R) Q) := w_ild at_108 rfl rfl
theorem m37_108p : M37 108 ls (.int j :: .ref 0 :: st) (put (b + 1) ((.array .int, sc.map Value.int) :: pre) s A post) Q = (inB j sc ∧ M37 109 ls (.int (getA sc j) :: st) (put (b + 1) ((.array .int, sc.map Value.int) :: pre) s A post) Q) := w_ild at_108 rfl rfl
theorem m37_109u : M37 109 [l0, l1, l2, l3, l4, l5, l6, l7, l8, l9, l10, l11, l12, l13, l14, l15, l16, l17, l18, l19, l20, l21, l22, .unset, l24, l25, l26, l27, l28, l29, l30, l31, l32] ((.int v) :: st) H Q = M37 111 [l0, l1, l2, l3, l4, l5, l6, l7, l8, l9, l10, l11, l12, l13, l14, l15, l16, l17, l18, l19, l20, l21, l22, .val (.int v), l24, l25, l26, l27, l28, l29, l30, l31, l32] st H Q := w_st (i := 23) (p := isI) at_109 rfl rfl rfl rfl rfl rfl
theorem m37_109i : M37 109 [l0, l1, l2, l3, l4, l5, l6, l7, l8, l9, l10, l11, l12, l13, l14, l15, l16, l17, l18, l19, l20, l21, l22, .val (.int z), l24, l25, l26, l27, l28, l29, l30, l31, l32] ((.int v) :: st) H Q = M37 111 [l0, l1, l2, l3, l4, l5, l6, l7, l8, l9, l10, l11, l12, l13, l14, l15, l16, l17, l18, l19, l20, l21, l22, .val (.int v), l24, l25, l26, l27, l28, l29, l30, l31, l32] st H Q := w_st (i := 23) (p := isI) at_109 rfl rfl rfl rfl rfl rfl
theorem m37_109r : M37 109 [l0, l1, l2, l3, l4, l5, l6, l7, l8, l9, l10, l11, l12, l13, l14, l15, l16, l17, l18, l19, l20, l21, l22, .val (.ref q), l24, l25, l26, l27, l28, l29, l30, l31, l32] ((.int v) :: st) H Q = M37 111 [l0, l1, l2, l3, l4, l5, l6, l7, l8, l9, l10, l11, l12, l13, l14, l15, l16, l17, l18, l19, l20, l21, l22, .val (.int v), l24, l25, l26, l27, l28, l29, l30, l31, l32] st H Q := w_st (i := 23) (p := isI) at_109 rfl rfl rfl rfl rfl rfl
theorem m37_109g (h : okS l23) : M37 109 [l0, l1, l2, l3, l4, l5, l6, l7, l8, l9, l10, l11, l12, l13, l14, l15, l16, l17, l18, l19, l20, l21, l22, l23, l24, l25, l26, l27, l28, l29, l30, l31, l32] ((.int v) :: st) H Q = M37 111 [l0, l1, l2, l3, l4, l5, l6, l7, l8, l9, l10, l11, l12, l13, l14, l15, l16, l17, l18, l19, l20, l21, l22, .val (.int v), l24, l25, l26, l27, l28, l29, l30, l31, l32] st H Q := by rcases h with rfl | ⟨z, rfl⟩ <;> first | exact m37_109u | exact m37_109i
theorem m37_111 : M37 111 [.val (.ref r), l1, l2, l3, l4, l5, l6, l7, l8, l9, l10, l11, l12, l13, l14, l15, l16, l17, l18, l19, l20, l21, l22, l23, l24, l25, l26, l27, l28, l29, l30, l31, l32] st H Q = M37 112 [.val (.ref r), l1, l2, l3, l4, l5, l6, l7, l8, l9, l10, l11, l12, l13, l14, l15, l16, l17, l18, l19, l20, l21, l22, l23, l24, l25, l26, l27, l28, l29, l30, l31, l32] (.ref r :: st) H Q := w_x at_111 rfl
theorem m37_112 : M37 112 [l0, l1, l2, l3, l4, l5, l6, l7, l8, l9, l10, l11, l12, l13, l14, l15, l16, l17, l18, l19, l20, .val (.int v), l22, l23, l24, l25, l26, l27, l28, l29, l30, l31, l32] st H Q = M37 114 [l0, l1, l2, l3, l4, l5, l6, l7, l8, l9, l10, l11, l12, l13, l14, l15, l16, l17, l18, l19, l20, .val (.int v), l22, l23, l24, l25, l26, l27, l28, l29, l30, l31, l32] (.int v :: st) H Q := w_x at_112 rfl
theorem m37_114 : M37 114 ls st H Q = M37 115 ls (.int 2 :: st) H Q := w_con at_114 rfl (by decide)
theorem m37_115 : M37 115 ls (.int y :: .int x :: st) H Q = M37 116 ls (.int (x + y) :: st) H Q := w_x at_115 rfl
theorem m37_116 : M37 116 ls (.int j :: .ref 0 :: st) ((.array .int, sc.map Value.int) :: R) Q = (inB j sc ∧ M37 117 ls (.int (getA sc j) :: st) ((.array .int, sc.map Value.int) :: R) Q) := w_ild at_116 rfl rfl
theorem m37_116p : M37 116 ls (.int j :: .ref 0 :: st) (put (b + 1) ((.array .int, sc.map Value.int) :: pre) s A post) Q = (inB j sc ∧ M37 117 ls (.int (getA sc j) :: st) (put (b + 1) ((.array .int, sc.map Value.int) :: pre) s A post) Q) := w_ild at_116 rfl rfl
theorem m37_117u : M37 117 [l0, l1, l2, l3, l4, l5, l6, l7, l8, l9, l10, l11, l12, l13, l14, l15, l16, l17, l18, l19, l20, l21, l22, l23, .unset, l25, l26, l27, l28, l29, l30, l31, l32] ((.int v) :: st) H Q = M37 119 [l0, l1, l2, l3, l4, l5, l6, l7, l8, l9, l10, l11, l12, l13, l14, l15, l16, l17, l18, l19, l20, l21, l22, l23, .val (.int v), l25, l26, l27, l28, l29, l30, l31, l32] st H Q := w_st (i := 24) (p := isI) at_117 rfl rfl rfl rfl rfl rfl
theorem m37_117i : M37 117 [l0, l1, l2, l3, l4, l5, l6, l7, l8, l9, l10, l11, l12, l13, l14, l15, l16, l17, l18, l19, l20, l21, l22, l23, .val (.int z), l25, l26, l27, l28, l29, l30, l31, l32] ((.int v) :: st) H Q = M37 119 [l0, l1, l2, l3, l4, l5, l6, l7, l8, l9, l10, l11, l12, l13, l14, l15, l16, l17, l18, l19, l20, l21, l22, l23, .val (.int v), l25, l26, l27, l28, l29, l30, l31, l32] st H Q := w_st (i := 24) (p := isI) at_117 rfl rfl rfl rfl rfl rfl
theorem m37_117r : M37 117 [l0, l1, l2, l3, l4, l5, l6, l7, l8, l9, l10, l11, l12, l13, l14, l15, l16, l17, l18, l19, l20, l21, l22, l23, .val (.ref q), l25, l26, l27, l28, l29, l30, l31, l32] ((.int v) :: st) H Q = M37 119 [l0, l1, l2, l3, l4, l5, l6, l7, l8, l9, l10, l11, l12, l13, l14, l15, l16, l17, l18, l19, l20, l21, l22, l23, .val (.int v), l25, l26, l27, l28, l29, l30, l31, l32] st H Q := w_st (i := 24) (p := isI) at_117 rfl rfl rfl rfl rfl rfl
theorem m37_117g (h : okS l24) : M37 117 [l0, l1, l2, l3, l4, l5, l6, l7, l8, l9, l10, l11, l12, l13, l14, l15, l16, l17, l18, l19, l20, l21, l22, l23, l24, l25, l26, l27, l28, l29, l30, l31, l32] ((.int v) :: st) H Q = M37 119 [l0, l1, l2, l3, l4, l5, l6, l7, l8, l9, l10, l11, l12, l13, l14, l15, l16, l17, l18, l19, l20, l21, l22, l23, .val (.int v), l25, l26, l27, l28, l29, l30, l31, l32] st H Q := by rcases h with rfl | ⟨z, rfl⟩ <;> first | exact m37_117u | exact m37_117i
theorem m37_119 : M37 119 [.val (.ref r), l1, l2, l3, l4, l5, l6, l7, l8, l9, l10, l11, l12, l13, l14, l15, l16, l17, l18, l19, l20, l21, l22, l23, l24, l25, l26, l27, l28, l29, l30, l31, l32] st H Q = M37 120 [.val (.ref r), l1, l2, l3, l4, l5, l6, l7, l8, l9, l10, l11, l12, l13, l14, l15, l16, l17, l18, l19, l20, l21, l22, l23, l24, l25, l26, l27, l28, l29, l30, l31, l32] (.ref r :: st) H Q := w_x at_119 rfl
theorem m37_120 : M37 120 [l0, l1, l2, l3, l4, l5, l6, l7, l8, l9, l10, l11, l12, l13, l14, l15, l16, l17, l18, l19, l20, .val (.int v), l22, l23, l24, l25, l26, l27, l28, l29, l30, l31, l32] st H Q = M37 122 [l0, l1, l2, l3, l4, l5, l6, l7, l8, l9, l10, l11, l12, l13, l14, l15, l16, l17, l18, l19, l20, .val (.int v), l22, l23, l24, l25, l26, l27, l28, l29, l30, l31, l32] (.int v :: st) H Q := w_x at_120 rfl
theorem m37_122 : M37 122 ls st H Q = M37 123 ls (.int 3 :: st) H Q := w_con at_122 rfl (by decide)
theorem m37_123 : M37 123 ls (.int y :: .int x :: st) H Q = M37 124 ls (.int (x + y) :: st) H Q := w_x at_123 rfl
theorem m37_124 : M37 124 ls (.int j :: .ref 0 :: st) ((.array .int, sc.map Value.int) :: R) Q = (inB j sc ∧ M37 125 ls (.int (getA sc j) :: st) ((.array .int, sc.map Value.int) :: R) Q) := w_ild at_124 rfl rfl
theorem m37_124p : M37 124 ls (.int j :: .ref 0 :: st) (put (b + 1) ((.array .int, sc.map Value.int) :: pre) s A post) Q = (inB j sc ∧ M37 125 ls (.int (getA sc j) :: st) (put (b + 1) ((.array .int, sc.map Value.int) :: pre) s A post) Q) := w_ild at_124 rfl rfl
theorem m37_125u : M37 125 [l0, l1, l2, l3, l4, l5, l6, l7, l8, l9, l10, l11, l12, l13, l14, l15, l16, l17, l18, l19, l20, l21, l22, l23, l24, .unset, l26, l27, l28, l29, l30, l31, l32] ((.int v) :: st) H Q = M37 127 [l0, l1, l2, l3, l4, l5, l6, l7, l8, l9, l10, l11, l12, l13, l14, l15, l16, l17, l18, l19, l20, l21, l22, l23, l24, .val (.int v), l26, l27, l28, l29, l30, l31, l32] st H Q := w_st (i := 25) (p := isI) at_125 rfl rfl rfl rfl rfl rfl
theorem m37_125i : M37 125 [l0, l1, l2, l3, l4, l5, l6, l7, l8, l9, l10, l11, l12, l13, l14, l15, l16, l17, l18, l19, l20, l21, l22, l23, l24, .val (.int z), l26, l27, l28, l29, l30, l31, l32] ((.int v) :: st) H Q = M37 127 [l0, l1, l2, l3, l4, l5, l6, l7, l8, l9, l10, l11, l12, l13, l14, l15, l16, l17, l18, l19, l20, l21, l22, l23, l24, .val (.int v), l26, l27, l28, l29, l30, l31, l32] st H Q := w_st (i := 25) (p := isI) at_125 rfl rfl rfl rfl rfl rfl
theorem m37_125r : M37 125 [l0, l1, l2, l3, l4, l5, l6, l7, l8, l9, l10, l11, l12, l13, l14, l15, l16, l17, l18, l19, l20, l21, l22, l23, l24, .val (.ref q), l26, l27, l28, l29, l30, l31, l32] ((.int v) :: st) H Q = M37 127 [l0, l1, l2, l3, l4, l5, l6, l7, l8, l9, l10, l11, l12, l13, l14, l15, l16, l17, l18, l19, l20, l21, l22, l23, l24, .val (.int v), l26, l27, l28, l29, l30, l31, l32] st H Q := w_st (i := 25) (p := isI) at_125 rfl rfl rfl rfl rfl rfl
theorem m37_125g (h : okS l25) : M37 125 [l0, l1, l2, l3, l4, l5, l6, l7, l8, l9, l10, l11, l12, l13, l14, l15, l16, l17, l18, l19, l20, l21, l22, l23, l24, l25, l26, l27, l28, l29, l30, l31, l32] ((.int v) :: st) H Q = M37 127 [l0, l1, l2, l3, l4, l5, l6, l7, l8, l9, l10, l11, l12, l13, l14, l15, l16, l17, l18, l19, l20, l21, l22, l23, l24, .val (.int v), l26, l27, l28, l29, l30, l31, l32] st H Q := by rcases h with rfl | ⟨z, rfl⟩ <;> first | exact m37_125u | exact m37_125i
theorem m37_127 : M37 127 [.val (.ref r), l1, l2, l3, l4, l5, l6, l7, l8, l9, l10, l11, l12, l13, l14, l15, l16, l17, l18, l19, l20, l21, l22, l23, l24, l25, l26, l27, l28, l29, l30, l31, l32] st H Q = M37 128 [.val (.ref r), l1, l2, l3, l4, l5, l6, l7, l8, l9, l10, l11, l12, l13, l14, l15, l16, l17, l18, l19, l20, l21, l22, l23, l24, l25, l26, l27, l28, l29, l30, l31, l32] (.ref r :: st) H Q := w_x at_127 rfl
theorem m37_128 : M37 128 [l0, l1, l2, l3, l4, l5, l6, l7, l8, l9, l10, l11, l12, l13, l14, l15, l16, l17, l18, l19, l20, .val (.int v), l22, l23, l24, l25, l26, l27, l28, l29, l30, l31, l32] st H Q = M37 130 [l0, l1, l2, l3, l4, l5, l6, l7, l8, l9, l10, l11, l12, l13, l14, l15, l16, l17, l18, l19, l20, .val (.int v), l22, l23, l24, l25, l26, l27, l28, l29, l30, l31, l32] (.int v :: st) H Q := w_x at_128 rfl
theorem m37_130 : M37 130 ls st H Q = M37 131 ls (.int 4 :: st) H Q := w_con at_130 rfl (by decide)
theorem m37_131 : M37 131 ls (.int y :: .int x :: st) H Q = M37 132 ls (.int (x + y) :: st) H Q := w_x at_131 rfl
theorem m37_132 : M37 132 ls (.int j :: .ref 0 :: st) ((.array .int, sc.map Value.int) :: R) Q = (inB j sc ∧ M37 133 ls (.int (getA sc j) :: st) ((.array .int, sc.map Value.int) :: R) Q) := w_ild at_132 rfl rfl
theorem m37_132p : M37 132 ls (.int j :: .ref 0 :: st) (put (b + 1) ((.array .int, sc.map Value.int) :: pre) s A post) Q = (inB j sc ∧ M37 133 ls (.int (getA sc j) :: st) (put (b + 1) ((.array .int, sc.map Value.int) :: pre) s A post) Q) := w_ild at_132 rfl rfl
theorem m37_133u : M37 133 [l0, l1, l2, l3, l4, l5, l6, l7, l8, l9, l10, l11, l12, l13, l14, l15, l16, l17, l18, l19, l20, l21, l22, l23, l24, l25, .unset, l27, l28, l29, l30, l31, l32] ((.int v) :: st) H Q = M37 135 [l0, l1, l2, l3, l4, l5, l6, l7, l8, l9, l10, l11, l12, l13, l14, l15, l16, l17, l18, l19, l20, l21, l22, l23, l24, l25, .val (.int v), l27, l28, l29, l30, l31, l32] st H Q := w_st (i := 26) (p := isI) at_133 rfl rfl rfl rfl rfl rfl
theorem m37_133i : M37 133 [l0, l1, l2, l3, l4, l5, l6, l7, l8, l9, l10, l11, l12, l13, l14, l15, l16, l17, l18, l19, l20, l21, l22, l23, l24, l25, .val (.int z), l27, l28, l29, l30, l31, l32] ((.int v) :: st) H Q = M37 135 [l0, l1, l2, l3, l4, l5, l6, l7, l8, l9, l10, l11, l12, l13, l14, l15, l16, l17, l18, l19, l20, l21, l22, l23, l24, l25, .val (.int v), l27, l28, l29, l30, l31, l32] st H Q := w_st (i := 26) (p := isI) at_133 rfl rfl rfl rfl rfl rfl
theorem m37_133r : M37 133 [l0, l1, l2, l3, l4, l5, l6, l7, l8, l9, l10, l11, l12, l13, l14, l15, l16, l17, l18, l19, l20, l21, l22, l23, l24, l25, .val (.ref q), l27, l28, l29, l30, l31, l32] ((.int v) :: st) H Q = M37 135 [l0, l1, l2, l3, l4, l5, l6, l7, l8, l9, l10, l11, l12, l13, l14, l15, l16, l17, l18, l19, l20, l21, l22, l23, l24, l25, .val (.int v), l27, l28, l29, l30, l31, l32] st H Q := w_st (i := 26) (p := isI) at_133 rfl rfl rfl rfl rfl rfl
theorem m37_133g (h : okS l26) : M37 133 [l0, l1, l2, l3, l4, l5, l6, l7, l8, l9, l10, l11, l12, l13, l14, l15, l16, l17, l18, l19, l20, l21, l22, l23, l24, l25, l26, l27, l28, l29, l30, l31, l32] ((.int v) :: st) H Q = M37 135 [l0, l1, l2, l3, l4, l5, l6, l7, l8, l9, l10, l11, l12, l13, l14, l15, l16, l17, l18, l19, l20, l21, l22, l23, l24, l25, .val (.int v), l27, l28, l29, l30, l31, l32] st H Q := by rcases h with rfl | ⟨z, rfl⟩ <;> first | exact m37_133u | exact m37_133i
theorem m37_135 : M37 135 [l0, l1, l2, l3, l4, l5, l6, l7, l8, l9, l10, l11, l12, l13, l14, l15, l16, l17, l18, l19, l20, l21, .val (.int v), l23, l24, l25, l26, l27, l28, l29, l30, l31, l32] st H Q = M37 137 [l0, l1, l2, l3, l4, l5, l6, l7, l8, l9, l10, l11, l12, l13, l14, l15, l16, l17, l18, l19, l20, l21, .val (.int v), l23, l24, l25, l26, l27, l28, l29, l30, l31, l32] (.int v :: st) H Q := w_x at_135 rfl
theorem m37_137 : M37 137 ls (.int x :: st) H Q = if x = 0 then M37 140 ls st H Q else M37 326 ls st H Q := w_ifN at_137 (z_ne x) rfl
theorem m37_140 : M37 140 [l0, l1, l2, l3, l4, l5, l6, l7, l8, l9, l10, l11, l12, l13, l14, l15, l16, l17, l18, l19, l20, l21, l22, .val (.int v), l24, l25, l26, l27, l28, l29, l30, l31, l32] st H Q = M37 142 [l0, l1, l2, l3, l4, l5, l6, l7, l8, l9, l10, l11, l12, l13, l14, l15, l16, l17, l18, l19, l20, l21, l22, .val (.int v), l24, l25, l26, l27, l28, l29, l30, l31, l32] (.int v :: st) H Q := w_x at_140 rfl
theorem m37_142 : M37 142 ls st H Q = M37 144 ls (.int 7 :: st) H Q := w_con at_142 rfl (by decide)
theorem m37_144 : M37 144 ls (.int y :: .int x :: st) H Q = M37 145 ls (.int (x &&& y) :: st) H Q := w_x at_144 rfl
theorem m37_145 : M37 145 ls (.int x :: st) H Q = if x = 0 then M37 148 ls st H Q else M37 159 ls st H Q := w_ifN at_145 (z_ne x) rfl
theorem m37_148 : M37 148 [l0, l1, l2, l3, l4, l5, l6, l7, l8, l9, l10, l11, l12, l13, l14, l15, l16, l17, l18, l19, l20, l21, l22, .val (.int v), l24, l25, l26, l27, l28, l29, l30, l31, l32] st H Q = M37 150 [l0, l1, l2, l3, l4, l5, l6, l7, l8, l9, l10, l11, l12, l13, l14, l15, l16, l17, l18, l19, l20, l21, l22, .val (.int v), l24, l25, l26, l27, l28, l29, l30, l31, l32] (.int v :: st) H Q := w_x at_148 rfl
theorem m37_150 : M37 150 ls st H Q = M37 151 ls (.int 3 :: st) H Q := w_con at_150 rfl (by decide)
theorem m37_151 : M37 151 ls (.int y :: .int x :: st) H Q = M37 152 ls (.int (XT.ushr x y) :: st) H Q := w_x at_151 rfl
theorem m37_152 : M37 152 ls st H Q = M37 155 ls (.int 1023 :: st) H Q := w_con at_152 rfl (by decide)
theorem m37_155 : M37 155 ls (.int y :: .int x :: st) H Q = M37 156 ls (.int (x &&& y) :: st) H Q := w_x at_155 rfl
theorem m37_156 : M37 156 ls st H Q = M37 168 ls st H Q := w_x at_156 rfl
theorem m37_159 : M37 159 ls st H Q = M37 161 ls (.int 12 :: st) H Q := w_con at_159 rfl (by decide)
theorem m37_161 : M37 161 [l0, l1, l2, l3, l4, l5, l6, l7, l8, l9, l10, l11, l12, l13, l14, l15, l16, l17, l18, l19, l20, l21, l22, .val (.int v), l24, l25, l26, l27, l28, l29, l30, l31, l32] st H Q = M37 163 [l0, l1, l2, l3, l4, l5, l6, l7, l8, l9, l10, l11, l12, l13, l14, l15, l16, l17, l18, l19, l20, l21, l22, .val (.int v), l24, l25, l26, l27, l28, l29, l30, l31, l32] (.int v :: st) H Q := w_x at_161 rfl
theorem m37_163 : M37 163 ls st H Q = M37 164 ls (.int 3 :: st) H Q := w_con at_163 rfl (by decide)
theorem m37_164 : M37 164 ls (.int y :: .int x :: st) H Q = M37 165 ls (.int (XT.ushr x y) :: st) H Q := w_x at_164 rfl
theorem m37_165 : M37 165 ls st H Q = M37 166 ls (.int 3 :: st) H Q := w_con at_165 rfl (by decide)
theorem m37_166 : M37 166 ls (.int y :: .int x :: st) H Q = M37 167 ls (.int (x &&& y) :: st) H Q := w_x at_166 rfl
theorem m37_167 : M37 167 ls (.int y :: .int x :: st) H Q = M37 168 ls (.int (x <<< (y &&& 31)) :: st) H Q := w_x at_167 rfl
theorem m37_168u : M37 168 [l0, l1, l2, l3, l4, l5, l6, l7, l8, l9, l10, l11, l12, l13, l14, l15, l16, l17, l18, l19, l20, l21, l22, l23, l24, l25, l26, .unset, l28, l29, l30, l31, l32] ((.int v) :: st) H Q = M37 170 [l0, l1, l2, l3, l4, l5, l6, l7, l8, l9, l10, l11, l12, l13, l14, l15, l16, l17, l18, l19, l20, l21, l22, l23, l24, l25, l26, .val (.int v), l28, l29, l30, l31, l32] st H Q := w_st (i := 27) (p := isI) at_168 rfl rfl rfl rfl rfl rfl
theorem m37_168i : M37 168 [l0, l1, l2, l3, l4, l5, l6, l7, l8, l9, l10, l11, l12, l13, l14, l15, l16, l17, l18, l19, l20, l21, l22, l23, l24, l25, l26, .val (.int z), l28, l29, l30, l31, l32] ((.int v) :: st) H Q = M37 170 [l0, l1, l2, l3, l4, l5, l6, l7, l8, l9, l10, l11, l12, l13, l14, l15, l16, l17, l18, l19, l20, l21, l22, l23, l24, l25, l26, .val (.int v), l28, l29, l30, l31, l32] st H Q := w_st (i := 27) (p := isI) at_168 rfl rfl rfl rfl rfl rfl
theorem m37_168r : M37 168 [l0, l1, l2, l3, l4, l5, l6, l7, l8, l9, l10, l11, l12, l13, l14, l15, l16, l17, l18, l19, l20, l21, l22, l23, l24, l25, l26, .val (.ref q), l28, l29, l30, l31, l32] ((.int v) :: st) H Q = M37 170 [l0, l1, l2, l3, l4, l5, l6, l7, l8, l9, l10, l11, l12, l13, l14, l15, l16, l17, l18, l19, l20, l21, l22, l23, l24, l25, l26, .val (.int v), l28, l29, l30, l31, l32] st H Q := w_st (i := 27) (p := isI) at_168 rfl rfl rfl rfl rfl rfl
theorem m37_168g (h : okS l27) : M37 168 [l0, l1, l2, l3, l4, l5, l6, l7, l8, l9, l10, l11, l12, l13, l14, l15, l16, l17, l18, l19, l20, l21, l22, l23, l24, l25, l26, l27, l28, l29, l30, l31, l32] ((.int v) :: st) H Q = M37 170 [l0, l1, l2, l3, l4, l5, l6, l7, l8, l9, l10, l11, l12, l13, l14, l15, l16, l17, l18, l19, l20, l21, l22, l23, l24, l25, l26, .val (.int v), l28, l29, l30, l31, l32] st H Q := by rcases h with rfl | ⟨z, rfl⟩ <;> first | exact m37_168u | exact m37_168i
theorem m37_170 : M37 170 [l0, l1, l2, l3, l4, l5, l6, l7, l8, l9, l10, l11, l12, l13, l14, l15, l16, l17, l18, l19, l20, l21, l22, l23, l24, l25, l26, .val (.int v), l28, l29, l30, l31, l32] st H Q = M37 172 [l0, l1, l2, l3, l4, l5, l6, l7, l8, l9, l10, l11, l12, l13, l14, l15, l16, l17, l18, l19, l20, l21, l22, l23, l24, l25, l26, .val (.int v), l28, l29, l30, l31, l32] (.int v :: st) H Q := w_x at_170 rfl
theorem m37_172 : M37 172 [l0, l1, l2, l3, l4, l5, l6, l7, l8, l9, l10, l11, l12, l13, l14, l15, l16, l17, l18, l19, l20, l21, l22, l23, .val (.int v), l25, l26, l27, l28, l29, l30, l31, l32] st H Q = M37 174 [l0, l1, l2, l3, l4, l5, l6, l7, l8, l9, l10, l11, l12, l13, l14, l15, l16, l17, l18, l19, l20, l21, l22, l23, .val (.int v), l25, l26, l27, l28, l29, l30, l31, l32] (.int v :: st) H Q := w_x at_172 rfl
theorem m37_174 : M37 174 ls st H Q = M37 176 ls (.int 7 :: st) H Q := w_con at_174 rfl (by decide)
theorem m37_176 : M37 176 ls (.int y :: .int x :: st) H Q = M37 177 ls (.int (x &&& y) :: st) H Q := w_x at_176 rfl
theorem m37_177 : M37 177 ls (.int y :: .int x :: st) H Q = M37 178 ls (.int (x - y) :: st) H Q := w_x at_177 rfl
theorem m37_178u : M37 178 [l0, l1, l2, l3, l4, l5, l6, l7, l8, l9, l10, l11, l12, l13, l14, l15, l16, l17, l18, l19, l20, l21, l22, l23, l24, l25, l26, l27, .unset, l29, l30, l31, l32] ((.int v) :: st) H Q = M37 180 [l0, l1, l2, l3, l4, l5, l6, l7, l8, l9, l10, l11, l12, l13, l14, l15, l16, l17, l18, l19, l20, l21, l22, l23, l24, l25, l26, l27, .val (.int v), l29, l30, l31, l32] st H Q := w_st (i := 28) (p := isI) at_178 rfl rfl rfl rfl rfl rfl
theorem m37_178i : M37 178 [l0, l1, l2, l3, l4, l5, l6, l7, l8, l9, l10, l11, l12, l13, l14, l15, l16, l17, l18, l19, l20, l21, l22, l23, l24, l25, l26, l27, .val (.int z), l29, l30, l31, l32] ((.int v) :: st) H Q = M37 180 [l0, l1, l2, l3, l4, l5, l6, l7, l8, l9, l10, l11, l12, l13, l14, l15, l16, l17, l18, l19, l20, l21, l22, l23, l24, l25, l26, l27, .val (.int v), l29, l30, l31, l32] st H Q := w_st (i := 28) (p := isI) at_178 rfl rfl rfl rfl rfl rfl
theorem m37_178r : M37 178 [l0, l1, l2, l3, l4, l5, l6, l7, l8, l9, l10, l11, l12, l13, l14, l15, l16, l17, l18, l19, l20, l21, l22, l23, l24, l25, l26, l27, .val (.ref q), l29, l30, l31, l32] ((.int v) :: st) H Q = M37 180 [l0, l1, l2, l3, l4, l5, l6, l7, l8, l9, l10, l11, l12, l13, l14, l15, l16, l17, l18, l19, l20, l21, l22, l23, l24, l25, l26, l27, .val (.int v), l29, l30, l31, l32] st H Q := w_st (i := 28) (p := isI) at_178 rfl rfl rfl rfl rfl rfl
theorem m37_178g (h : okS l28) : M37 178 [l0, l1, l2, l3, l4, l5, l6, l7, l8, l9, l10, l11, l12, l13, l14, l15, l16, l17, l18, l19, l20, l21, l22, l23, l24, l25, l26, l27, l28, l29, l30, l31, l32] ((.int v) :: st) H Q = M37 180 [l0, l1, l2, l3, l4, l5, l6, l7, l8, l9, l10, l11, l12, l13, l14, l15, l16, l17, l18, l19, l20, l21, l22, l23, l24, l25, l26, l27, .val (.int v), l29, l30, l31, l32] st H Q := by rcases h with rfl | ⟨z, rfl⟩ <;> first | exact m37_178u | exact m37_178i
theorem m37_180 : M37 180 ls st H Q = M37 181 ls (.int 1 :: st) H Q := w_con at_180 rfl (by decide)
theorem m37_181 : M37 181 [l0, l1, l2, l3, l4, l5, l6, l7, l8, l9, l10, l11, l12, l13, l14, l15, l16, l17, l18, l19, l20, l21, l22, l23, l24, .val (.int v), l26, l27, l28, l29, l30, l31, l32] st H Q = M37 183 [l0, l1, l2, l3, l4, l5, l6, l7, l8, l9, l10, l11, l12, l13, l14, l15, l16, l17, l18, l19, l20, l21, l22, l23, l24, .val (.int v), l26, l27, l28, l29, l30, l31, l32] (.int v :: st) H Q := w_x at_181 rfl
theorem m37_183 : M37 183 ls st H Q = M37 185 ls (.int 7 :: st) H Q := w_con at_183 rfl (by decide)
theorem m37_185 : M37 185 ls (.int y :: .int x :: st) H Q = M37 186 ls (.int (x &&& y) :: st) H Q := w_x at_185 rfl
theorem m37_186 : M37 186 ls (.int y :: .int x :: st) H Q = M37 187 ls (.int (x + y) :: st) H Q := w_x at_186 rfl
theorem m37_187u : M37 187 [l0, l1, l2, l3, l4, l5, l6, l7, l8, l9, l10, l11, l12, l13, l14, l15, l16, l17, l18, l19, l20, l21, l22, l23, l24, l25, l26, l27, l28, .unset, l30, l31, l32] ((.int v) :: st) H Q = M37 189 [l0, l1, l2, l3, l4, l5, l6, l7, l8, l9, l10, l11, l12, l13, l14, l15, l16, l17, l18, l19, l20, l21, l22, l23, l24, l25, l26, l27, l28, .val (.int v), l30, l31, l32] st H Q := w_st (i := 29) (p := isI) at_187 rfl rfl rfl rfl rfl rfl
theorem m37_187i : M37 187 [l0, l1, l2, l3, l4, l5, l6, l7, l8, l9, l10, l11, l12, l13, l14, l15, l16, l17, l18, l19, l20, l21, l22, l23, l24, l25, l26, l27, l28, .val (.int z), l30, l31, l32] ((.int v) :: st) H Q = M37 189 [l0, l1, l2, l3, l4, l5, l6, l7, l8, l9, l10, l11, l12, l13, l14, l15, l16, l17, l18, l19, l20, l21, l22, l23, l24, l25, l26, l27, l28, .val (.int v), l30, l31, l32] st H Q := w_st (i := 29) (p := isI) at_187 rfl rfl rfl rfl rfl rfl
theorem m37_187r : M37 187 [l0, l1, l2, l3, l4, l5, l6, l7, l8, l9, l10, l11, l12, l13, l14, l15, l16, l17, l18, l19, l20, l21, l22, l23, l24, l25, l26, l27, l28, .val (.ref q), l30, l31, l32] ((.int v) :: st) H Q = M37 189 [l0, l1, l2, l3, l4, l5, l6, l7, l8, l9, l10, l11, l12, l13, l14, l15, l16, l17, l18, l19, l20, l21, l22, l23, l24, l25, l26, l27, l28, .val (.int v), l30, l31, l32] st H Q := w_st (i := 29) (p := isI) at_187 rfl rfl rfl rfl rfl rfl
theorem m37_187g (h : okS l29) : M37 187 [l0, l1, l2, l3, l4, l5, l6, l7, l8, l9, l10, l11, l12, l13, l14, l15, l16, l17, l18, l19, l20, l21, l22, l23, l24, l25, l26, l27, l28, l29, l30, l31, l32] ((.int v) :: st) H Q = M37 189 [l0, l1, l2, l3, l4, l5, l6, l7, l8, l9, l10, l11, l12, l13, l14, l15, l16, l17, l18, l19, l20, l21, l22, l23, l24, l25, l26, l27, l28, .val (.int v), l30, l31, l32] st H Q := by rcases h with rfl | ⟨z, rfl⟩ <;> first | exact m37_187u | exact m37_187i
theorem m37_189 : M37 189 [l0, l1, l2, l3, l4, l5, l6, l7, l8, l9, l10, l11, l12, l13, l14, l15, l16, l17, l18, l19, l20, l21, l22, l23, l24, l25, .val (.int v), l27, l28, l29, l30, l31, l32] st H Q = M37 191 [l0, l1, l2, l3, l4, l5, l6, l7, l8, l9, l10, l11, l12, l13, l14, l15, l16, l17, l18, l19, l20, l21, l22, l23, l24, l25, .val (.int v), l27, l28, l29, l30, l31, l32] (.int v :: st) H Q := w_x at_189 rfl
theorem m37_191 : M37 191 ls st H Q = M37 193 ls (.int 63 :: st) H Q := w_con at_191 rfl (by decide)
theorem m37_193 : M37 193 ls (.int y :: .int x :: st) H Q = M37 194 ls (.int (x &&& y) :: st) H Q := w_x at_193 rfl
theorem m37_194u : M37 194 [l0, l1, l2, l3, l4, l5, l6, l7, l8, l9, l10, l11, l12, l13, l14, l15, l16, l17, l18, l19, l20, l21, l22, l23, l24, l25, l26, l27, l28, l29, .unset, l31, l32] ((.int v) :: st) H Q = M37 196 [l0, l1, l2, l3, l4, l5, l6, l7, l8, l9, l10, l11, l12, l13, l14, l15, l16, l17, l18, l19, l20, l21, l22, l23, l24, l25, l26, l27, l28, l29, .val (.int v), l31, l32] st H Q := w_st (i := 30) (p := isI) at_194 rfl rfl rfl rfl rfl rfl
theorem m37_194i : M37 194 [l0, l1, l2, l3, l4, l5, l6, l7, l8, l9, l10, l11, l12, l13, l14, l15, l16, l17, l18, l19, l20, l21, l22, l23, l24, l25, l26, l27, l28, l29, .val (.int z), l31, l32] ((.int v) :: st) H Q = M37 196 [l0, l1, l2, l3, l4, l5, l6, l7, l8, l9, l10, l11, l12, l13, l14, l15, l16, l17, l18, l19, l20, l21, l22, l23, l24, l25, l26, l27, l28, l29, .val (.int v), l31, l32] st H Q := w_st (i := 30) (p := isI) at_194 rfl rfl rfl rfl rfl rfl
theorem m37_194r : M37 194 [l0, l1, l2, l3, l4, l5, l6, l7, l8, l9, l10, l11, l12, l13, l14, l15, l16, l17, l18, l19, l20, l21, l22, l23, l24, l25, l26, l27, l28, l29, .val (.ref q), l31, l32] ((.int v) :: st) H Q = M37 196 [l0, l1, l2, l3, l4, l5, l6, l7, l8, l9, l10, l11, l12, l13, l14, l15, l16, l17, l18, l19, l20, l21, l22, l23, l24, l25, l26, l27, l28, l29, .val (.int v), l31, l32] st H Q := w_st (i := 30) (p := isI) at_194 rfl rfl rfl rfl rfl rfl
theorem m37_194g (h : okS l30) : M37 194 [l0, l1, l2, l3, l4, l5, l6, l7, l8, l9, l10, l11, l12, l13, l14, l15, l16, l17, l18, l19, l20, l21, l22, l23, l24, l25, l26, l27, l28, l29, l30, l31, l32] ((.int v) :: st) H Q = M37 196 [l0, l1, l2, l3, l4, l5, l6, l7, l8, l9, l10, l11, l12, l13, l14, l15, l16, l17, l18, l19, l20, l21, l22, l23, l24, l25, l26, l27, l28, l29, .val (.int v), l31, l32] st H Q := by rcases h with rfl | ⟨z, rfl⟩ <;> first | exact m37_194u | exact m37_194i
theorem m37_196 : M37 196 ls st H Q = M37 197 ls (.int 0 :: st) H Q := w_con at_196 rfl (by decide)
theorem m37_197u : M37 197 [l0, l1, l2, l3, l4, l5, l6, l7, l8, l9, l10, l11, l12, l13, l14, l15, l16, l17, l18, l19, l20, l21, l22, l23, l24, l25, l26, l27, l28, l29, l30, .unset, l32] ((.int v) :: st) H Q = M37 199 [l0, l1, l2, l3, l4, l5, l6, l7, l8, l9, l10, l11, l12, l13, l14, l15, l16, l17, l18, l19, l20, l21, l22, l23, l24, l25, l26, l27, l28, l29, l30, .val (.int v), l32] st H Q := w_st (i := 31) (p := isI) at_197 rfl rfl rfl rfl rfl rfl
theorem m37_197i : M37 197 [l0, l1, l2, l3, l4, l5, l6, l7, l8, l9, l10, l11, l12, l13, l14, l15, l16, l17, l18, l19, l20, l21, l22, l23, l24, l25, l26, l27, l28, l29, l30, .val (.int z), l32] ((.int v) :: st) H Q = M37 199 [l0, l1, l2, l3, l4, l5, l6, l7, l8, l9, l10, l11, l12, l13, l14, l15, l16, l17, l18, l19, l20, l21, l22, l23, l24, l25, l26, l27, l28, l29, l30, .val (.int v), l32] st H Q := w_st (i := 31) (p := isI) at_197 rfl rfl rfl rfl rfl rfl
theorem m37_197r : M37 197 [l0, l1, l2, l3, l4, l5, l6, l7, l8, l9, l10, l11, l12, l13, l14, l15, l16, l17, l18, l19, l20, l21, l22, l23, l24, l25, l26, l27, l28, l29, l30, .val (.ref q), l32] ((.int v) :: st) H Q = M37 199 [l0, l1, l2, l3, l4, l5, l6, l7, l8, l9, l10, l11, l12, l13, l14, l15, l16, l17, l18, l19, l20, l21, l22, l23, l24, l25, l26, l27, l28, l29, l30, .val (.int v), l32] st H Q := w_st (i := 31) (p := isI) at_197 rfl rfl rfl rfl rfl rfl
theorem m37_197g (h : okS l31) : M37 197 [l0, l1, l2, l3, l4, l5, l6, l7, l8, l9, l10, l11, l12, l13, l14, l15, l16, l17, l18, l19, l20, l21, l22, l23, l24, l25, l26, l27, l28, l29, l30, l31, l32] ((.int v) :: st) H Q = M37 199 [l0, l1, l2, l3, l4, l5, l6, l7, l8, l9, l10, l11, l12, l13, l14, l15, l16, l17, l18, l19, l20, l21, l22, l23, l24, l25, l26, l27, l28, l29, l30, .val (.int v), l32] st H Q := by rcases h with rfl | ⟨z, rfl⟩ <;> first | exact m37_197u | exact m37_197i
theorem m37_199 : M37 199 [l0, l1, l2, l3, .val (.int v), l5, l6, l7, l8, l9, l10, l11, l12, l13, l14, l15, l16, l17, l18, l19, l20, l21, l22, l23, l24, l25, l26, l27, l28, l29, l30, l31, l32] st H Q = M37 201 [l0, l1, l2, l3, .val (.int v), l5, l6, l7, l8, l9, l10, l11, l12, l13, l14, l15, l16, l17, l18, l19, l20, l21, l22, l23, l24, l25, l26, l27, l28, l29, l30, l31, l32] (.int v :: st) H Q := w_x at_199 rfl
theorem m37_201 : M37 201 [l0, l1, l2, .val (.int v), l4, l5, l6, l7, l8, l9, l10, l11, l12, l13, l14, l15, l16, l17, l18, l19, l20, l21, l22, l23, l24, l25, l26, l27, l28, l29, l30, l31, l32] st H Q = M37 202 [l0, l1, l2, .val (.int v), l4, l5, l6, l7, l8, l9, l10, l11, l12, l13, l14, l15, l16, l17, l18, l19, l20, l21, l22, l23, l24, l25, l26, l27, l28, l29, l30, l31, l32] (.int v :: st) H Q := w_x at_201 rfl
theorem m37_202 : M37 202 ls (.int y :: .int x :: st) H Q = if x = y then M37 205 ls st H Q else M37 211 ls st H Q := w_icmpN at_202 (i_ne x y) rfl
theorem m37_205 : M37 205 ls st H Q = M37 206 ls (.int (-1) :: st) H Q := w_con at_205 rfl (by decide)
theorem m37_206i : M37 206 [l0, l1, l2, l3, l4, l5, l6, l7, l8, l9, l10, l11, l12, l13, l14, l15, l16, l17, l18, l19, l20, l21, l22, l23, l24, l25, l26, l27, l28, l29, l30, .val (.int z), l32] ((.int v) :: st) H Q = M37 208 [l0, l1, l2, l3, l4, l5, l6, l7, l8, l9, l10, l11, l12, l13, l14, l15, l16, l17, l18, l19, l20, l21, l22, l23, l24, l25, l26, l27, l28, l29, l30, .val (.int v), l32] st H Q := w_st (i := 31) (p := isI) at_206 rfl rfl rfl rfl rfl rfl
theorem m37_208 : M37 208 ls st H Q = M37 274 ls st H Q := w_x at_208 rfl
theorem m37_211 : M37 211 [l0, l1, l2, l3, l4, l5, l6, l7, l8, l9, l10, l11, l12, l13, l14, l15, l16, l17, l18, l19, l20, l21, l22, l23, l24, l25, l26, .val (.int v), l28, l29, l30, l31, l32] st H Q = M37 213 [l0, l1, l2, l3, l4, l5, l6, l7, l8, l9, l10, l11, l12, l13, l14, l15, l16, l17, l18, l19, l20, l21, l22, l23, l24, l25, l26, .val (.int v), l28, l29, l30, l31, l32] (.int v :: st) H Q := w_x at_211 rfl
theorem m37_213 : M37 213 ls st H Q = M37 214 ls (.int 1 :: st) H Q := w_con at_213 rfl (by decide)
theorem m37_214 : M37 214 ls (.int y :: .int x :: st) H Q = if x < y then M37 245 ls st H Q else M37 217 ls st H Q := w_icmp at_214 (i_lt x y) rfl
theorem m37_217 : M37 217 [l0, l1, l2, l3, l4, l5, l6, l7, l8, l9, l10, l11, l12, l13, l14, l15, l16, l17, l18, l19, l20, l21, l22, l23, l24, l25, l26, .val (.int v), l28, l29, l30, l31, l32] st H Q = M37 219 [l0, l1, l2, l3, l4, l5, l6, l7, l8, l9, l10, l11, l12, l13, l14, l15, l16, l17, l18, l19, l20, l21, l22, l23, l24, l25, l26, .val (.int v), l28, l29, l30, l31, l32] (.int v :: st) H Q := w_x at_217 rfl
theorem m37_219 : M37 219 ls st H Q = M37 222 ls (.int 840 :: st) H Q := w_con at_219 rfl (by decide)
theorem m37_222 : M37 222 ls (.int y :: .int x :: st) H Q = if y < x then M37 245 ls st H Q else M37 225 ls st H Q := w_icmp at_222 (i_gt x y) rfl
theorem m37_225 : M37 225 [l0, l1, l2, l3, l4, l5, l6, l7, l8, l9, l10, l11, l12, l13, l14, l15, l16, l17, l18, l19, l20, l21, l22, l23, l24, l25, l26, l27, .val (.int v), l29, l30, l31, l32] st H Q = M37 227 [l0, l1, l2, l3, l4, l5, l6, l7, l8, l9, l10, l11, l12, l13, l14, l15, l16, l17, l18, l19, l20, l21, l22, l23, l24, l25, l26, l27, .val (.int v), l29, l30, l31, l32] (.int v :: st) H Q := w_x at_225 rfl
theorem m37_227 : M37 227 ls st H Q = M37 228 ls (.int 1 :: st) H Q := w_con at_227 rfl (by decide)
theorem m37_228 : M37 228 ls (.int y :: .int x :: st) H Q = if x < y then M37 245 ls st H Q else M37 231 ls st H Q := w_icmp at_228 (i_lt x y) rfl
theorem m37_231 : M37 231 [l0, l1, l2, l3, l4, l5, l6, l7, l8, l9, l10, l11, l12, l13, l14, l15, l16, l17, l18, l19, l20, l21, l22, l23, l24, l25, l26, l27, .val (.int v), l29, l30, l31, l32] st H Q = M37 233 [l0, l1, l2, l3, l4, l5, l6, l7, l8, l9, l10, l11, l12, l13, l14, l15, l16, l17, l18, l19, l20, l21, l22, l23, l24, l25, l26, l27, .val (.int v), l29, l30, l31, l32] (.int v :: st) H Q := w_x at_231 rfl
theorem m37_233 : M37 233 [l0, l1, l2, l3, l4, l5, l6, l7, l8, l9, l10, l11, l12, l13, l14, l15, l16, l17, l18, l19, l20, l21, l22, l23, l24, l25, l26, .val (.int v), l28, l29, l30, l31, l32] st H Q = M37 235 [l0, l1, l2, l3, l4, l5, l6, l7, l8, l9, l10, l11, l12, l13, l14, l15, l16, l17, l18, l19, l20, l21, l22, l23, l24, l25, l26, .val (.int v), l28, l29, l30, l31, l32] (.int v :: st) H Q := w_x at_233 rfl
theorem m37_235 : M37 235 ls (.int y :: .int x :: st) H Q = if y < x then M37 245 ls st H Q else M37 238 ls st H Q := w_icmp at_235 (i_gt x y) rfl
theorem m37_238 : M37 238 [l0, l1, l2, l3, l4, l5, l6, l7, l8, l9, l10, l11, l12, l13, l14, l15, l16, l17, l18, l19, l20, l21, l22, l23, l24, l25, l26, l27, l28, .val (.int v), l30, l31, l32] st H Q = M37 240 [l0, l1, l2, l3, l4, l5, l6, l7, l8, l9, l10, l11, l12, l13, l14, l15, l16, l17, l18, l19, l20, l21, l22, l23, l24, l25, l26, l27, l28, .val (.int v), l30, l31, l32] (.int v :: st) H Q := w_x at_238 rfl
theorem m37_240 : M37 240 [l0, l1, l2, l3, l4, l5, l6, l7, l8, l9, l10, l11, l12, l13, l14, l15, l16, l17, l18, l19, l20, l21, l22, l23, l24, l25, l26, l27, .val (.int v), l29, l30, l31, l32] st H Q = M37 242 [l0, l1, l2, l3, l4, l5, l6, l7, l8, l9, l10, l11, l12, l13, l14, l15, l16, l17, l18, l19, l20, l21, l22, l23, l24, l25, l26, l27, .val (.int v), l29, l30, l31, l32] (.int v :: st) H Q := w_x at_240 rfl
theorem m37_242 : M37 242 ls (.int y :: .int x :: st) H Q = if y < x then M37 245 ls st H Q else M37 252 ls st H Q := w_icmpN at_242 (i_le x y) rfl
theorem m37_245 : M37 245 ls st H Q = M37 247 ls (.int (-2) :: st) H Q := w_con at_245 rfl (by decide)
theorem m37_247i : M37 247 [l0, l1, l2, l3, l4, l5, l6, l7, l8, l9, l10, l11, l12, l13, l14, l15, l16, l17, l18, l19, l20, l21, l22, l23, l24, l25, l26, l27, l28, l29, l30, .val (.int z), l32] ((.int v) :: st) H Q = M37 249 [l0, l1, l2, l3, l4, l5, l6, l7, l8, l9, l10, l11, l12, l13, l14, l15, l16, l17, l18, l19, l20, l21, l22, l23, l24, l25, l26, l27, l28, l29, l30, .val (.int v), l32] st H Q := w_st (i := 31) (p := isI) at_247 rfl rfl rfl rfl rfl rfl
theorem m37_249 : M37 249 ls st H Q = M37 274 ls st H Q := w_x at_249 rfl
theorem m37_252 : M37 252 [l0, l1, l2, l3, l4, l5, l6, l7, l8, l9, l10, l11, l12, l13, l14, l15, l16, l17, l18, l19, l20, l21, l22, l23, l24, l25, l26, l27, l28, l29, .val (.int v), l31, l32] st H Q = M37 254 [l0, l1, l2, l3, l4, l5, l6, l7, l8, l9, l10, l11, l12, l13, l14, l15, l16, l17, l18, l19, l20, l21, l22, l23, l24, l25, l26, l27, l28, l29, .val (.int v), l31, l32] (.int v :: st) H Q := w_x at_252 rfl
theorem m37_254 : M37 254 ls st H Q = M37 255 ls (.int 1 :: st) H Q := w_con at_254 rfl (by decide)
theorem m37_255 : M37 255 ls (.int y :: .int x :: st) H Q = if x < y then M37 270 ls st H Q else M37 258 ls st H Q := w_icmp at_255 (i_lt x y) rfl
theorem m37_258 : M37 258 [l0, l1, l2, l3, l4, l5, l6, l7, l8, l9, l10, l11, l12, .val (.long J1), l14, l15, l16, l17, l18, l19, l20, l21, l22, l23, l24, l25, l26, l27, l28, l29, l30, l31, l32] st H Q = M37 260 [l0, l1, l2, l3, l4, l5, l6, l7, l8, l9, l10, l11, l12, .val (.long J1), l14, l15, l16, l17, l18, l19, l20, l21, l22, l23, l24, l25, l26, l27, l28, l29, l30, l31, l32] (.long J1 :: st) H Q := w_x at_258 rfl
theorem m37_260 : M37 260 [l0, l1, l2, l3, l4, l5, l6, l7, l8, l9, l10, l11, l12, l13, l14, l15, l16, l17, l18, l19, l20, l21, l22, l23, l24, l25, l26, l27, l28, l29, .val (.int v), l31, l32] st H Q = M37 262 [l0, l1, l2, l3, l4, l5, l6, l7, l8, l9, l10, l11, l12, l13, l14, l15, l16, l17, l18, l19, l20, l21, l22, l23, l24, l25, l26, l27, l28, l29, .val (.int v), l31, l32] (.int v :: st) H Q := w_x at_260 rfl
theorem m37_262 : M37 262 ls (.int y :: .long J1 :: st) H Q = M37 263 ls (.long (XT.ushrL J1 y) :: st) H Q := w_x at_262 rfl
theorem m37_263 : M37 263 ls st H Q = M37 264 ls (.long 1 :: st) H Q := w_con at_263 rfl (by decide)
theorem m37_264 : M37 264 ls (.long J2 :: .long J1 :: st) H Q = M37 265 ls (.long (J1 &&& J2) :: st) H Q := w_x at_264 rfl
theorem m37_265 : M37 265 ls st H Q = M37 266 ls (.long 0 :: st) H Q := w_con at_265 rfl (by decide)
theorem m37_266 : M37 266 ls (.long J2 :: .long J1 :: st) H Q = M37 267 ls (.int (XT.cmpL J1 J2) :: st) H Q := w_x at_266 rfl
theorem m37_267 : M37 267 ls (.int x :: st) H Q = if x = 0 then M37 274 ls st H Q else M37 270 ls st H Q := w_if at_267 (z_eq x) rfl
theorem m37_270 : M37 270 ls st H Q = M37 272 ls (.int (-3) :: st) H Q := w_con at_270 rfl (by decide)
theorem m37_272i : M37 272 [l0, l1, l2, l3, l4, l5, l6, l7, l8, l9, l10, l11, l12, l13, l14, l15, l16, l17, l18, l19, l20, l21, l22, l23, l24, l25, l26, l27, l28, l29, l30, .val (.int z), l32] ((.int v) :: st) H Q = M37 274 [l0, l1, l2, l3, l4, l5, l6, l7, l8, l9, l10, l11, l12, l13, l14, l15, l16, l17, l18, l19, l20, l21, l22, l23, l24, l25, l26, l27, l28, l29, l30, .val (.int v), l32] st H Q := w_st (i := 31) (p := isI) at_272 rfl rfl rfl rfl rfl rfl
theorem m37_274 : M37 274 [l0, l1, .val (.ref r), l3, l4, l5, l6, l7, l8, l9, l10, l11, l12, l13, l14, l15, l16, l17, l18, l19, l20, l21, l22, l23, l24, l25, l26, l27, l28, l29, l30, l31, l32] st H Q = M37 275 [l0, l1, .val (.ref r), l3, l4, l5, l6, l7, l8, l9, l10, l11, l12, l13, l14, l15, l16, l17, l18, l19, l20, l21, l22, l23, l24, l25, l26, l27, l28, l29, l30, l31, l32] (.ref r :: st) H Q := w_x at_274 rfl
theorem m37_275 : M37 275 [l0, l1, l2, l3, l4, l5, l6, l7, l8, l9, l10, l11, l12, l13, l14, l15, l16, l17, l18, l19, l20, l21, l22, l23, l24, l25, l26, .val (.int v), l28, l29, l30, l31, l32] st H Q = M37 277 [l0, l1, l2, l3, l4, l5, l6, l7, l8, l9, l10, l11, l12, l13, l14, l15, l16, l17, l18, l19, l20, l21, l22, l23, l24, l25, l26, .val (.int v), l28, l29, l30, l31, l32] (.int v :: st) H Q := w_x at_275 rfl
theorem m37_277 : M37 277 [l0, l1, l2, l3, l4, l5, l6, l7, l8, l9, l10, l11, l12, l13, l14, l15, l16, l17, l18, l19, l20, l21, l22, l23, l24, l25, l26, l27, .val (.int v), l29, l30, l31, l32] st H Q = M37 279 [l0, l1, l2, l3, l4, l5, l6, l7, l8, l9, l10, l11, l12, l13, l14, l15, l16, l17, l18, l19, l20, l21, l22, l23, l24, l25, l26, l27, .val (.int v), l29, l30, l31, l32] (.int v :: st) H Q := w_x at_277 rfl
theorem m37_279 : M37 279 [l0, l1, l2, l3, l4, l5, l6, l7, l8, l9, l10, l11, l12, l13, l14, l15, l16, l17, l18, l19, l20, l21, l22, l23, l24, l25, l26, l27, l28, .val (.int v), l30, l31, l32] st H Q = M37 281 [l0, l1, l2, l3, l4, l5, l6, l7, l8, l9, l10, l11, l12, l13, l14, l15, l16, l17, l18, l19, l20, l21, l22, l23, l24, l25, l26, l27, l28, .val (.int v), l30, l31, l32] (.int v :: st) H Q := w_x at_279 rfl
theorem m37_281 : M37 281 [l0, l1, l2, l3, l4, l5, l6, l7, l8, l9, l10, l11, l12, l13, l14, l15, l16, l17, l18, l19, l20, l21, l22, l23, l24, l25, l26, l27, l28, l29, .val (.int v), l31, l32] st H Q = M37 283 [l0, l1, l2, l3, l4, l5, l6, l7, l8, l9, l10, l11, l12, l13, l14, l15, l16, l17, l18, l19, l20, l21, l22, l23, l24, l25, l26, l27, l28, l29, .val (.int v), l31, l32] (.int v :: st) H Q := w_x at_281 rfl
theorem cr37_12 : vR tables_1 dn y37 12 = some (false, y13, prog_1_method_2_code, 6, (some .int), 4, 39) := vR_of (cR_of (by decide +kernel) rc_13 dn_13 dn_37 (sig := ⟨[.int, .int, .int, .int], some .int⟩) (by decide +kernel) (by decide +kernel) rfl rfl) (by decide +kernel) (by decide +kernel) (by decide +kernel)
theorem m37_283 (a0 : Int32) (a1 : Int32) (a2 : Int32) (a3 : Int32) : M37 283 ls [.int a3, .int a2, .int a1, .int a0, .ref (b + 1)] (put (b + 1) pre s A post) Q = M13 0 [.val (.ref (b + 1)), .val (.int a0), .val (.int a1), .val (.int a2), .val (.int a3), .unset] [] (put (b + 1) pre s A post) (fun v H1 => M37 286 ls (v.toList ++ []) H1 Q) := w_virt (as := [.int a3, .int a2, .int a1, .int a0]) (rest := []) (a := (b + 1)) at_283 cr37_12 put_o rfl rfl (Nat.le_of_ble_eq_true rfl) (by show 5 ≤ 6; omega) rfl
theorem m37_286u : M37 286 [l0, l1, l2, l3, l4, l5, l6, l7, l8, l9, l10, l11, l12, l13, l14, l15, l16, l17, l18, l19, l20, l21, l22, l23, l24, l25, l26, l27, l28, l29, l30, l31, .unset] ((.int v) :: st) H Q = M37 288 [l0, l1, l2, l3, l4, l5, l6, l7, l8, l9, l10, l11, l12, l13, l14, l15, l16, l17, l18, l19, l20, l21, l22, l23, l24, l25, l26, l27, l28, l29, l30, l31, .val (.int v)] st H Q := w_st (i := 32) (p := isI) at_286 rfl rfl rfl rfl rfl rfl
theorem m37_286i : M37 286 [l0, l1, l2, l3, l4, l5, l6, l7, l8, l9, l10, l11, l12, l13, l14, l15, l16, l17, l18, l19, l20, l21, l22, l23, l24, l25, l26, l27, l28, l29, l30, l31, .val (.int z)] ((.int v) :: st) H Q = M37 288 [l0, l1, l2, l3, l4, l5, l6, l7, l8, l9, l10, l11, l12, l13, l14, l15, l16, l17, l18, l19, l20, l21, l22, l23, l24, l25, l26, l27, l28, l29, l30, l31, .val (.int v)] st H Q := w_st (i := 32) (p := isI) at_286 rfl rfl rfl rfl rfl rfl
theorem m37_286r : M37 286 [l0, l1, l2, l3, l4, l5, l6, l7, l8, l9, l10, l11, l12, l13, l14, l15, l16, l17, l18, l19, l20, l21, l22, l23, l24, l25, l26, l27, l28, l29, l30, l31, .val (.ref q)] ((.int v) :: st) H Q = M37 288 [l0, l1, l2, l3, l4, l5, l6, l7, l8, l9, l10, l11, l12, l13, l14, l15, l16, l17, l18, l19, l20, l21, l22, l23, l24, l25, l26, l27, l28, l29, l30, l31, .val (.int v)] st H Q := w_st (i := 32) (p := isI) at_286 rfl rfl rfl rfl rfl rfl
theorem m37_286g (h : okS l32) : M37 286 [l0, l1, l2, l3, l4, l5, l6, l7, l8, l9, l10, l11, l12, l13, l14, l15, l16, l17, l18, l19, l20, l21, l22, l23, l24, l25, l26, l27, l28, l29, l30, l31, l32] ((.int v) :: st) H Q = M37 288 [l0, l1, l2, l3, l4, l5, l6, l7, l8, l9, l10, l11, l12, l13, l14, l15, l16, l17, l18, l19, l20, l21, l22, l23, l24, l25, l26, l27, l28, l29, l30, l31, .val (.int v)] st H Q := by rcases h with rfl | ⟨z, rfl⟩ <;> first | exact m37_286u | exact m37_286i
theorem m37_288 : M37 288 [l0, l1, l2, l3, l4, l5, l6, l7, l8, l9, l10, l11, l12, l13, l14, l15, l16, l17, l18, l19, l20, l21, l22, l23, l24, l25, l26, l27, l28, l29, l30, l31, .val (.int v)] st H Q = M37 290 [l0, l1, l2, l3, l4, l5, l6, l7, l8, l9, l10, l11, l12, l13, l14, l15, l16, l17, l18, l19, l20, l21, l22, l23, l24, l25, l26, l27, l28, l29, l30, l31, .val (.int v)] (.int v :: st) H Q := w_x at_288 rfl
theorem m37_290 : M37 290 [l0, l1, l2, l3, l4, l5, l6, l7, l8, l9, l10, l11, l12, l13, l14, l15, l16, l17, l18, l19, l20, l21, l22, l23, l24, l25, l26, l27, l28, l29, l30, .val (.int v), l32] st H Q = M37 292 [l0, l1, l2, l3, l4, l5, l6, l7, l8, l9, l10, l11, l12, l13, l14, l15, l16, l17, l18, l19, l20, l21, l22, l23, l24, l25, l26, l27, l28, l29, l30, .val (.int v), l32] (.int v :: st) H Q := w_x at_290 rfl
theorem m37_292 : M37 292 ls (.int y :: .int x :: st) H Q = if x = y then M37 297 ls st H Q else M37 295 ls st H Q := w_icmp at_292 (i_eq x y) rfl
theorem m37_295 : M37 295 ls st H Q = M37 296 ls (.int 0 :: st) H Q := w_con at_295 rfl (by decide)
theorem m37_296 : M37 296 ls (.int z :: st) H Q = Q (some (.int (nar .boolean z))) H := w_iretN at_296 rfl (by simp)
theorem m37_297 : M37 297 [l0, l1, l2, l3, l4, l5, l6, l7, l8, l9, l10, l11, l12, l13, l14, l15, l16, l17, l18, l19, l20, l21, l22, l23, l24, l25, l26, l27, l28, l29, l30, l31, .val (.int v)] st H Q = M37 299 [l0, l1, l2, l3, l4, l5, l6, l7, l8, l9, l10, l11, l12, l13, l14, l15, l16, l17, l18, l19, l20, l21, l22, l23, l24, l25, l26, l27, l28, l29, l30, l31, .val (.int v)] (.int v :: st) H Q := w_x at_297 rfl
theorem m37_299 : M37 299 ls (.int x :: st) H Q = if x = 0 then M37 302 ls st H Q else M37 323 ls st H Q := w_ifN at_299 (z_ne x) rfl
theorem m37_302 : M37 302 ls st H Q = M37 303 ls (.int 1 :: st) H Q := w_con at_302 rfl (by decide)
theorem m37_303i : M37 303 [l0, l1, l2, l3, l4, l5, l6, l7, l8, l9, l10, l11, .val (.int z), l13, l14, l15, l16, l17, l18, l19, l20, l21, l22, l23, l24, l25, l26, l27, l28, l29, l30, l31, l32] ((.int v) :: st) H Q = M37 305 [l0, l1, l2, l3, l4, l5, l6, l7, l8, l9, l10, l11, .val (.int v), l13, l14, l15, l16, l17, l18, l19, l20, l21, l22, l23, l24, l25, l26, l27, l28, l29, l30, l31, l32] st H Q := w_st (i := 12) (p := isI) at_303 rfl rfl rfl rfl rfl rfl
theorem m37_305 : M37 305 [l0, l1, l2, l3, l4, l5, l6, l7, l8, l9, l10, l11, l12, l13, l14, l15, l16, l17, l18, l19, l20, l21, l22, l23, l24, l25, l26, l27, l28, .val (.int v), l30, l31, l32] st H Q = M37 307 [l0, l1, l2, l3, l4, l5, l6, l7, l8, l9, l10, l11, l12, l13, l14, l15, l16, l17, l18, l19, l20, l21, l22, l23, l24, l25, l26, l27, l28, .val (.int v), l30, l31, l32] (.int v :: st) H Q := w_x at_305 rfl
theorem m37_307i : M37 307 [l0, l1, l2, l3, l4, l5, l6, l7, .val (.int z), l9, l10, l11, l12, l13, l14, l15, l16, l17, l18, l19, l20, l21, l22, l23, l24, l25, l26, l27, l28, l29, l30, l31, l32] ((.int v) :: st) H Q = M37 309 [l0, l1, l2, l3, l4, l5, l6, l7, .val (.int v), l9, l10, l11, l12, l13, l14, l15, l16, l17, l18, l19, l20, l21, l22, l23, l24, l25, l26, l27, l28, l29, l30, l31, l32] st H Q := w_st (i := 8) (p := isI) at_307 rfl rfl rfl rfl rfl rfl
theorem m37_309 : M37 309 [l0, l1, l2, l3, l4, l5, l6, l7, l8, l9, l10, l11, l12, l13, l14, l15, l16, l17, l18, l19, l20, l21, l22, l23, l24, l25, l26, l27, l28, l29, .val (.int v), l31, l32] st H Q = M37 311 [l0, l1, l2, l3, l4, l5, l6, l7, l8, l9, l10, l11, l12, l13, l14, l15, l16, l17, l18, l19, l20, l21, l22, l23, l24, l25, l26, l27, l28, l29, .val (.int v), l31, l32] (.int v :: st) H Q := w_x at_309 rfl
theorem m37_311i : M37 311 [l0, l1, l2, l3, l4, l5, l6, l7, l8, .val (.int z), l10, l11, l12, l13, l14, l15, l16, l17, l18, l19, l20, l21, l22, l23, l24, l25, l26, l27, l28, l29, l30, l31, l32] ((.int v) :: st) H Q = M37 313 [l0, l1, l2, l3, l4, l5, l6, l7, l8, .val (.int v), l10, l11, l12, l13, l14, l15, l16, l17, l18, l19, l20, l21, l22, l23, l24, l25, l26, l27, l28, l29, l30, l31, l32] st H Q := w_st (i := 9) (p := isI) at_311 rfl rfl rfl rfl rfl rfl
theorem m37_313 : M37 313 [l0, l1, l2, l3, l4, l5, l6, l7, l8, l9, l10, l11, l12, l13, l14, l15, l16, l17, l18, l19, l20, l21, l22, l23, l24, l25, l26, .val (.int v), l28, l29, l30, l31, l32] st H Q = M37 315 [l0, l1, l2, l3, l4, l5, l6, l7, l8, l9, l10, l11, l12, l13, l14, l15, l16, l17, l18, l19, l20, l21, l22, l23, l24, l25, l26, .val (.int v), l28, l29, l30, l31, l32] (.int v :: st) H Q := w_x at_313 rfl
theorem m37_315i : M37 315 [l0, l1, l2, l3, l4, l5, l6, l7, l8, l9, .val (.int z), l11, l12, l13, l14, l15, l16, l17, l18, l19, l20, l21, l22, l23, l24, l25, l26, l27, l28, l29, l30, l31, l32] ((.int v) :: st) H Q = M37 317 [l0, l1, l2, l3, l4, l5, l6, l7, l8, l9, .val (.int v), l11, l12, l13, l14, l15, l16, l17, l18, l19, l20, l21, l22, l23, l24, l25, l26, l27, l28, l29, l30, l31, l32] st H Q := w_st (i := 10) (p := isI) at_315 rfl rfl rfl rfl rfl rfl
theorem m37_317 : M37 317 ls st H Q = M37 318 ls (.long 0 :: st) H Q := w_con at_317 rfl (by decide)
theorem m37_318 : M37 318 [l0, l1, l2, l3, l4, l5, l6, l7, l8, l9, l10, l11, l12, l13, l14, .val (.long J2), .second, l17, l18, l19, l20, l21, l22, l23, l24, l25, l26, l27, l28, l29, l30, l31, l32] (.long J1 :: st) H Q = M37 320 [l0, l1, l2, l3, l4, l5, l6, l7, l8, l9, l10, l11, l12, l13, l14, .val (.long J1), .second, l17, l18, l19, l20, l21, l22, l23, l24, l25, l26, l27, l28, l29, l30, l31, l32] st H Q := w_x at_318 rfl
theorem m37_320 : M37 320 ls st H Q = M37 321 ls (.long 0 :: st) H Q := w_con at_320 rfl (by decide)
theorem m37_321 : M37 321 [l0, l1, l2, l3, l4, l5, l6, l7, l8, l9, l10, l11, l12, l13, l14, l15, l16, .val (.long J2), .second, l19, l20, l21, l22, l23, l24, l25, l26, l27, l28, l29, l30, l31, l32] (.long J1 :: st) H Q = M37 323 [l0, l1, l2, l3, l4, l5, l6, l7, l8, l9, l10, l11, l12, l13, l14, l15, l16, .val (.long J1), .second, l19, l20, l21, l22, l23, l24, l25, l26, l27, l28, l29, l30, l31, l32] st H Q := w_x at_321 rfl
theorem m37_323 : M37 323 ls st H Q = M37 743 ls st H Q := w_x at_323 rfl
theorem m37_326 : M37 326 [l0, l1, l2, l3, l4, l5, l6, l7, l8, l9, l10, l11, l12, l13, l14, l15, l16, l17, l18, l19, l20, l21, .val (.int v), l23, l24, l25, l26, l27, l28, l29, l30, l31, l32] st H Q = M37 328 [l0, l1, l2, l3, l4, l5, l6, l7, l8, l9, l10, l11, l12, l13, l14, l15, l16, l17, l18, l19, l20, l21, .val (.int v), l23, l24, l25, l26, l27, l28, l29, l30, l31, l32] (.int v :: st) H Q := w_x at_326 rfl
theorem m37_328 : M37 328 ls st H Q = M37 329 ls (.int 1 :: st) H Q := w_con at_328 rfl (by decide)
theorem m37_329 : M37 329 ls (.int y :: .int x :: st) H Q = if x = y then M37 332 ls st H Q else M37 497 ls st H Q := w_icmpN at_329 (i_ne x y) rfl
theorem m37_332 : M37 332 [l0, l1, l2, l3, l4, l5, l6, l7, l8, l9, l10, l11, l12, l13, l14, l15, l16, l17, l18, l19, l20, l21, l22, .val (.int v), l24, l25, l26, l27, l28, l29, l30, l31, l32] st H Q = M37 334 [l0, l1, l2, l3, l4, l5, l6, l7, l8, l9, l10, l11, l12, l13, l14, l15, l16, l17, l18, l19, l20, l21, l22, .val (.int v), l24, l25, l26, l27, l28, l29, l30, l31, l32] (.int v :: st) H Q := w_x at_332 rfl
theorem m37_334 : M37 334 ls st H Q = M37 336 ls (.int 7 :: st) H Q := w_con at_334 rfl (by decide)
theorem m37_336 : M37 336 ls (.int y :: .int x :: st) H Q = M37 337 ls (.int (x &&& y) :: st) H Q := w_x at_336 rfl
theorem m37_337 : M37 337 ls st H Q = M37 339 ls (.int 7 :: st) H Q := w_con at_337 rfl (by decide)
theorem m37_339 : M37 339 ls (.int y :: .int x :: st) H Q = if x = y then M37 342 ls st H Q else M37 346 ls st H Q := w_icmpN at_339 (i_ne x y) rfl
theorem m37_342 : M37 342 ls st H Q = M37 343 ls (.int 4 :: st) H Q := w_con at_342 rfl (by decide)
theorem m37_343 : M37 343 ls st H Q = M37 350 ls st H Q := w_x at_343 rfl
theorem m37_346 : M37 346 [l0, l1, l2, l3, l4, l5, l6, l7, l8, l9, l10, l11, l12, l13, l14, l15, l16, l17, l18, l19, l20, l21, l22, .val (.int v), l24, l25, l26, l27, l28, l29, l30, l31, l32] st H Q = M37 348 [l0, l1, l2, l3, l4, l5, l6, l7, l8, l9, l10, l11, l12, l13, l14, l15, l16, l17, l18, l19, l20, l21, l22, .val (.int v), l24, l25, l26, l27, l28, l29, l30, l31, l32] (.int v :: st) H Q := w_x at_346 rfl
theorem m37_348 : M37 348 ls st H Q = M37 349 ls (.int 3 :: st) H Q := w_con at_348 rfl (by decide)
theorem m37_349 : M37 349 ls (.int y :: .int x :: st) H Q = M37 350 ls (.int (x &&& y) :: st) H Q := w_x at_349 rfl
theorem m37_350u : M37 350 [l0, l1, l2, l3, l4, l5, l6, l7, l8, l9, l10, l11, l12, l13, l14, l15, l16, l17, l18, l19, l20, l21, l22, l23, l24, l25, l26, .unset, l28, l29, l30, l31, l32] ((.int v) :: st) H Q = M37 352 [l0, l1, l2, l3, l4, l5, l6, l7, l8, l9, l10, l11, l12, l13, l14, l15, l16, l17, l18, l19, l20, l21, l22, l23, l24, l25, l26, .val (.int v), l28, l29, l30, l31, l32] st H Q := w_st (i := 27) (p := isI) at_350 rfl rfl rfl rfl rfl rfl
theorem m37_350i : M37 350 [l0, l1, l2, l3, l4, l5, l6, l7, l8, l9, l10, l11, l12, l13, l14, l15, l16, l17, l18, l19, l20, l21, l22, l23, l24, l25, l26, .val (.int z), l28, l29, l30, l31, l32] ((.int v) :: st) H Q = M37 352 [l0, l1, l2, l3, l4, l5, l6, l7, l8, l9, l10, l11, l12, l13, l14, l15, l16, l17, l18, l19, l20, l21, l22, l23, l24, l25, l26, .val (.int v), l28, l29, l30, l31, l32] st H Q := w_st (i := 27) (p := isI) at_350 rfl rfl rfl rfl rfl rfl
theorem m37_350r : M37 350 [l0, l1, l2, l3, l4, l5, l6, l7, l8, l9, l10, l11, l12, l13, l14, l15, l16, l17, l18, l19, l20, l21, l22, l23, l24, l25, l26, .val (.ref q), l28, l29, l30, l31, l32] ((.int v) :: st) H Q = M37 352 [l0, l1, l2, l3, l4, l5, l6, l7, l8, l9, l10, l11, l12, l13, l14, l15, l16, l17, l18, l19, l20, l21, l22, l23, l24, l25, l26, .val (.int v), l28, l29, l30, l31, l32] st H Q := w_st (i := 27) (p := isI) at_350 rfl rfl rfl rfl rfl rfl
theorem m37_350g (h : okS l27) : M37 350 [l0, l1, l2, l3, l4, l5, l6, l7, l8, l9, l10, l11, l12, l13, l14, l15, l16, l17, l18, l19, l20, l21, l22, l23, l24, l25, l26, l27, l28, l29, l30, l31, l32] ((.int v) :: st) H Q = M37 352 [l0, l1, l2, l3, l4, l5, l6, l7, l8, l9, l10, l11, l12, l13, l14, l15, l16, l17, l18, l19, l20, l21, l22, l23, l24, l25, l26, .val (.int v), l28, l29, l30, l31, l32] st H Q := by rcases h with rfl | ⟨z, rfl⟩ <;> first | exact m37_350u | exact m37_350i
theorem m37_352 : M37 352 [l0, l1, l2, l3, l4, l5, l6, l7, l8, l9, l10, l11, l12, l13, l14, l15, l16, l17, l18, l19, l20, l21, l22, l23, .val (.int v), l25, l26, l27, l28, l29, l30, l31, l32] st H Q = M37 354 [l0, l1, l2, l3, l4, l5, l6, l7, l8, l9, l10, l11, l12, l13, l14, l15, l16, l17, l18, l19, l20, l21, l22, l23, .val (.int v), l25, l26, l27, l28, l29, l30, l31, l32] (.int v :: st) H Q := w_x at_352 rfl
theorem m37_354 : M37 354 ls st H Q = M37 356 ls (.int 7 :: st) H Q := w_con at_354 rfl (by decide)
theorem m37_356 : M37 356 ls (.int y :: .int x :: st) H Q = M37 357 ls (.int (x &&& y) :: st) H Q := w_x at_356 rfl
theorem m37_357u : M37 357 [l0, l1, l2, l3, l4, l5, l6, l7, l8, l9, l10, l11, l12, l13, l14, l15, l16, l17, l18, l19, l20, l21, l22, l23, l24, l25, l26, l27, .unset, l29, l30, l31, l32] ((.int v) :: st) H Q = M37 359 [l0, l1, l2, l3, l4, l5, l6, l7, l8, l9, l10, l11, l12, l13, l14, l15, l16, l17, l18, l19, l20, l21, l22, l23, l24, l25, l26, l27, .val (.int v), l29, l30, l31, l32] st H Q := w_st (i := 28) (p := isI) at_357 rfl rfl rfl rfl rfl rfl
theorem m37_357i : M37 357 [l0, l1, l2, l3, l4, l5, l6, l7, l8, l9, l10, l11, l12, l13, l14, l15, l16, l17, l18, l19, l20, l21, l22, l23, l24, l25, l26, l27, .val (.int z), l29, l30, l31, l32] ((.int v) :: st) H Q = M37 359 [l0, l1, l2, l3, l4, l5, l6, l7, l8, l9, l10, l11, l12, l13, l14, l15, l16, l17, l18, l19, l20, l21, l22, l23, l24, l25, l26, l27, .val (.int v), l29, l30, l31, l32] st H Q := w_st (i := 28) (p := isI) at_357 rfl rfl rfl rfl rfl rfl
theorem m37_357r : M37 357 [l0, l1, l2, l3, l4, l5, l6, l7, l8, l9, l10, l11, l12, l13, l14, l15, l16, l17, l18, l19, l20, l21, l22, l23, l24, l25, l26, l27, .val (.ref q), l29, l30, l31, l32] ((.int v) :: st) H Q = M37 359 [l0, l1, l2, l3, l4, l5, l6, l7, l8, l9, l10, l11, l12, l13, l14, l15, l16, l17, l18, l19, l20, l21, l22, l23, l24, l25, l26, l27, .val (.int v), l29, l30, l31, l32] st H Q := w_st (i := 28) (p := isI) at_357 rfl rfl rfl rfl rfl rfl
theorem m37_357g (h : okS l28) : M37 357 [l0, l1, l2, l3, l4, l5, l6, l7, l8, l9, l10, l11, l12, l13, l14, l15, l16, l17, l18, l19, l20, l21, l22, l23, l24, l25, l26, l27, l28, l29, l30, l31, l32] ((.int v) :: st) H Q = M37 359 [l0, l1, l2, l3, l4, l5, l6, l7, l8, l9, l10, l11, l12, l13, l14, l15, l16, l17, l18, l19, l20, l21, l22, l23, l24, l25, l26, l27, .val (.int v), l29, l30, l31, l32] st H Q := by rcases h with rfl | ⟨z, rfl⟩ <;> first | exact m37_357u | exact m37_357i
theorem m37_359 : M37 359 [l0, l1, l2, l3, l4, l5, l6, l7, l8, l9, l10, l11, l12, l13, l14, l15, l16, l17, l18, l19, l20, l21, l22, l23, l24, .val (.int v), l26, l27, l28, l29, l30, l31, l32] st H Q = M37 361 [l0, l1, l2, l3, l4, l5, l6, l7, l8, l9, l10, l11, l12, l13, l14, l15, l16, l17, l18, l19, l20, l21, l22, l23, l24, .val (.int v), l26, l27, l28, l29, l30, l31, l32] (.int v :: st) H Q := w_x at_359 rfl
theorem m37_361 : M37 361 ls st H Q = M37 362 ls (.int 3 :: st) H Q := w_con at_361 rfl (by decide)
theorem m37_362 : M37 362 ls (.int y :: .int x :: st) H Q = M37 363 ls (.int (x &&& y) :: st) H Q := w_x at_362 rfl
theorem m37_363u : M37 363 [l0, l1, l2, l3, l4, l5, l6, l7, l8, l9, l10, l11, l12, l13, l14, l15, l16, l17, l18, l19, l20, l21, l22, l23, l24, l25, l26, l27, l28, .unset, l30, l31, l32] ((.int v) :: st) H Q = M37 365 [l0, l1, l2, l3, l4, l5, l6, l7, l8, l9, l10, l11, l12, l13, l14, l15, l16, l17, l18, l19, l20, l21, l22, l23, l24, l25, l26, l27, l28, .val (.int v), l30, l31, l32] st H Q := w_st (i := 29) (p := isI) at_363 rfl rfl rfl rfl rfl rfl
theorem m37_363i : M37 363 [l0, l1, l2, l3, l4, l5, l6, l7, l8, l9, l10, l11, l12, l13, l14, l15, l16, l17, l18, l19, l20, l21, l22, l23, l24, l25, l26, l27, l28, .val (.int z), l30, l31, l32] ((.int v) :: st) H Q = M37 365 [l0, l1, l2, l3, l4, l5, l6, l7, l8, l9, l10, l11, l12, l13, l14, l15, l16, l17, l18, l19, l20, l21, l22, l23, l24, l25, l26, l27, l28, .val (.int v), l30, l31, l32] st H Q := w_st (i := 29) (p := isI) at_363 rfl rfl rfl rfl rfl rfl
theorem m37_363r : M37 363 [l0, l1, l2, l3, l4, l5, l6, l7, l8, l9, l10, l11, l12, l13, l14, l15, l16, l17, l18, l19, l20, l21, l22, l23, l24, l25, l26, l27, l28, .val (.ref q), l30, l31, l32] ((.int v) :: st) H Q = M37 365 [l0, l1, l2, l3, l4, l5, l6, l7, l8, l9, l10, l11, l12, l13, l14, l15, l16, l17, l18, l19, l20, l21, l22, l23, l24, l25, l26, l27, l28, .val (.int v), l30, l31, l32] st H Q := w_st (i := 29) (p := isI) at_363 rfl rfl rfl rfl rfl rfl
theorem m37_363g (h : okS l29) : M37 363 [l0, l1, l2, l3, l4, l5, l6, l7, l8, l9, l10, l11, l12, l13, l14, l15, l16, l17, l18, l19, l20, l21, l22, l23, l24, l25, l26, l27, l28, l29, l30, l31, l32] ((.int v) :: st) H Q = M37 365 [l0, l1, l2, l3, l4, l5, l6, l7, l8, l9, l10, l11, l12, l13, l14, l15, l16, l17, l18, l19, l20, l21, l22, l23, l24, l25, l26, l27, l28, .val (.int v), l30, l31, l32] st H Q := by rcases h with rfl | ⟨z, rfl⟩ <;> first | exact m37_363u | exact m37_363i
theorem m37_365 : M37 365 ls st H Q = M37 366 ls (.int 0 :: st) H Q := w_con at_365 rfl (by decide)
theorem m37_366u : M37 366 [l0, l1, l2, l3, l4, l5, l6, l7, l8, l9, l10, l11, l12, l13, l14, l15, l16, l17, l18, l19, l20, l21, l22, l23, l24, l25, l26, l27, l28, l29, .unset, l31, l32] ((.int v) :: st) H Q = M37 368 [l0, l1, l2, l3, l4, l5, l6, l7, l8, l9, l10, l11, l12, l13, l14, l15, l16, l17, l18, l19, l20, l21, l22, l23, l24, l25, l26, l27, l28, l29, .val (.int v), l31, l32] st H Q := w_st (i := 30) (p := isI) at_366 rfl rfl rfl rfl rfl rfl
theorem m37_366i : M37 366 [l0, l1, l2, l3, l4, l5, l6, l7, l8, l9, l10, l11, l12, l13, l14, l15, l16, l17, l18, l19, l20, l21, l22, l23, l24, l25, l26, l27, l28, l29, .val (.int z), l31, l32] ((.int v) :: st) H Q = M37 368 [l0, l1, l2, l3, l4, l5, l6, l7, l8, l9, l10, l11, l12, l13, l14, l15, l16, l17, l18, l19, l20, l21, l22, l23, l24, l25, l26, l27, l28, l29, .val (.int v), l31, l32] st H Q := w_st (i := 30) (p := isI) at_366 rfl rfl rfl rfl rfl rfl
theorem m37_366r : M37 366 [l0, l1, l2, l3, l4, l5, l6, l7, l8, l9, l10, l11, l12, l13, l14, l15, l16, l17, l18, l19, l20, l21, l22, l23, l24, l25, l26, l27, l28, l29, .val (.ref q), l31, l32] ((.int v) :: st) H Q = M37 368 [l0, l1, l2, l3, l4, l5, l6, l7, l8, l9, l10, l11, l12, l13, l14, l15, l16, l17, l18, l19, l20, l21, l22, l23, l24, l25, l26, l27, l28, l29, .val (.int v), l31, l32] st H Q := w_st (i := 30) (p := isI) at_366 rfl rfl rfl rfl rfl rfl
theorem m37_366g (h : okS l30) : M37 366 [l0, l1, l2, l3, l4, l5, l6, l7, l8, l9, l10, l11, l12, l13, l14, l15, l16, l17, l18, l19, l20, l21, l22, l23, l24, l25, l26, l27, l28, l29, l30, l31, l32] ((.int v) :: st) H Q = M37 368 [l0, l1, l2, l3, l4, l5, l6, l7, l8, l9, l10, l11, l12, l13, l14, l15, l16, l17, l18, l19, l20, l21, l22, l23, l24, l25, l26, l27, l28, l29, .val (.int v), l31, l32] st H Q := by rcases h with rfl | ⟨z, rfl⟩ <;> first | exact m37_366u | exact m37_366i
theorem m37_368 : M37 368 ls st H Q = M37 369 ls (.long 0 :: st) H Q := w_con at_368 rfl (by decide)
theorem m37_369 : M37 369 [l0, l1, l2, l3, l4, l5, l6, l7, l8, l9, l10, l11, l12, l13, l14, l15, l16, l17, l18, l19, l20, l21, l22, l23, l24, l25, l26, l27, l28, l29, l30, .unset, .unset] (.long J1 :: st) H Q = M37 371 [l0, l1, l2, l3, l4, l5, l6, l7, l8, l9, l10, l11, l12, l13, l14, l15, l16, l17, l18, l19, l20, l21, l22, l23, l24, l25, l26, l27, l28, l29, l30, .val (.long J1), .second] st H Q := w_x at_369 rfl
theorem m37_371 : M37 371 [l0, l1, l2, l3, l4, l5, l6, l7, l8, l9, l10, l11, .val (.int v), l13, l14, l15, l16, l17, l18, l19, l20, l21, l22, l23, l24, l25, l26, l27, l28, l29, l30, l31, l32] st H Q = M37 373 [l0, l1, l2, l3, l4, l5, l6, l7, l8, l9, l10, l11, .val (.int v), l13, l14, l15, l16, l17, l18, l19, l20, l21, l22, l23, l24, l25, l26, l27, l28, l29, l30, l31, l32] (.int v :: st) H Q := w_x at_371 rfl
theorem m37_373 : M37 373 ls (.int x :: st) H Q = if x = 0 then M37 376 ls st H Q else M37 383 ls st H Q := w_ifN at_373 (z_ne x) rfl
theorem m37_376 : M37 376 ls st H Q = M37 378 ls (.int (-4) :: st) H Q := w_con at_376 rfl (by decide)
theorem m37_378i : M37 378 [l0, l1, l2, l3, l4, l5, l6, l7, l8, l9, l10, l11, l12, l13, l14, l15, l16, l17, l18, l19, l20, l21, l22, l23, l24, l25, l26, l27, l28, l29, .val (.int z), l31, l32] ((.int v) :: st) H Q = M37 380 [l0, l1, l2, l3, l4, l5, l6, l7, l8, l9, l10, l11, l12, l13, l14, l15, l16, l17, l18, l19, l20, l21, l22, l23, l24, l25, l26, l27, l28, l29, .val (.int v), l31, l32] st H Q := w_st (i := 30) (p := isI) at_378 rfl rfl rfl rfl rfl rfl
theorem m37_380 : M37 380 ls st H Q = M37 456 ls st H Q := w_x at_380 rfl
theorem m37_383 : M37 383 [l0, l1, l2, l3, l4, l5, l6, l7, l8, l9, l10, l11, l12, l13, l14, l15, l16, l17, l18, l19, l20, l21, l22, l23, l24, l25, l26, .val (.int v), l28, l29, l30, l31, l32] st H Q = M37 385 [l0, l1, l2, l3, l4, l5, l6, l7, l8, l9, l10, l11, l12, l13, l14, l15, l16, l17, l18, l19, l20, l21, l22, l23, l24, l25, l26, .val (.int v), l28, l29, l30, l31, l32] (.int v :: st) H Q := w_x at_383 rfl
theorem m37_385 : M37 385 ls st H Q = M37 386 ls (.int 3 :: st) H Q := w_con at_385 rfl (by decide)
theorem m37_386 : M37 386 ls (.int y :: .int x :: st) H Q = if y < x then M37 412 ls st H Q else M37 389 ls st H Q := w_icmp at_386 (i_gt x y) rfl
theorem m37_389 : M37 389 [l0, l1, l2, l3, l4, l5, l6, l7, l8, l9, l10, l11, l12, l13, l14, l15, l16, l17, l18, l19, l20, l21, l22, l23, l24, l25, l26, l27, l28, .val (.int v), l30, l31, l32] st H Q = M37 391 [l0, l1, l2, l3, l4, l5, l6, l7, l8, l9, l10, l11, l12, l13, l14, l15, l16, l17, l18, l19, l20, l21, l22, l23, l24, l25, l26, l27, l28, .val (.int v), l30, l31, l32] (.int v :: st) H Q := w_x at_389 rfl
theorem m37_391 : M37 391 ls st H Q = M37 392 ls (.int 1 :: st) H Q := w_con at_391 rfl (by decide)
theorem m37_392 : M37 392 ls (.int y :: .int x :: st) H Q = if x < y then M37 412 ls st H Q else M37 395 ls st H Q := w_icmp at_392 (i_lt x y) rfl
theorem m37_395 : M37 395 [l0, l1, l2, l3, l4, l5, l6, l7, l8, l9, l10, l11, l12, l13, l14, l15, l16, l17, l18, l19, l20, l21, l22, l23, l24, l25, l26, l27, .val (.int v), l29, l30, l31, l32] st H Q = M37 397 [l0, l1, l2, l3, l4, l5, l6, l7, l8, l9, l10, l11, l12, l13, l14, l15, l16, l17, l18, l19, l20, l21, l22, l23, l24, l25, l26, l27, .val (.int v), l29, l30, l31, l32] (.int v :: st) H Q := w_x at_395 rfl
theorem m37_397 : M37 397 [l0, l1, l2, l3, l4, l5, l6, l7, .val (.int v), l9, l10, l11, l12, l13, l14, l15, l16, l17, l18, l19, l20, l21, l22, l23, l24, l25, l26, l27, l28, l29, l30, l31, l32] st H Q = M37 399 [l0, l1, l2, l3, l4, l5, l6, l7, .val (.int v), l9, l10, l11, l12, l13, l14, l15, l16, l17, l18, l19, l20, l21, l22, l23, l24, l25, l26, l27, l28, l29, l30, l31, l32] (.int v :: st) H Q := w_x at_397 rfl
theorem m37_399 : M37 399 ls (.int y :: .int x :: st) H Q = if y < x then M37 412 ls st H Q else M37 402 ls st H Q := w_icmp at_399 (i_gt x y) rfl
theorem m37_402 : M37 402 [l0, l1, l2, l3, l4, l5, l6, l7, l8, l9, l10, l11, l12, l13, l14, l15, l16, l17, l18, l19, l20, l21, l22, l23, l24, l25, l26, l27, l28, .val (.int v), l30, l31, l32] st H Q = M37 404 [l0, l1, l2, l3, l4, l5, l6, l7, l8, l9, l10, l11, l12, l13, l14, l15, l16, l17, l18, l19, l20, l21, l22, l23, l24, l25, l26, l27, l28, .val (.int v), l30, l31, l32] (.int v :: st) H Q := w_x at_402 rfl
theorem m37_404 : M37 404 [l0, l1, l2, l3, l4, l5, l6, l7, .val (.int v), l9, l10, l11, l12, l13, l14, l15, l16, l17, l18, l19, l20, l21, l22, l23, l24, l25, l26, l27, l28, l29, l30, l31, l32] st H Q = M37 406 [l0, l1, l2, l3, l4, l5, l6, l7, .val (.int v), l9, l10, l11, l12, l13, l14, l15, l16, l17, l18, l19, l20, l21, l22, l23, l24, l25, l26, l27, l28, l29, l30, l31, l32] (.int v :: st) H Q := w_x at_404 rfl
theorem m37_406 : M37 406 [l0, l1, l2, l3, l4, l5, l6, l7, l8, l9, l10, l11, l12, l13, l14, l15, l16, l17, l18, l19, l20, l21, l22, l23, l24, l25, l26, l27, .val (.int v), l29, l30, l31, l32] st H Q = M37 408 [l0, l1, l2, l3, l4, l5, l6, l7, l8, l9, l10, l11, l12, l13, l14, l15, l16, l17, l18, l19, l20, l21, l22, l23, l24, l25, l26, l27, .val (.int v), l29, l30, l31, l32] (.int v :: st) H Q := w_x at_406 rfl
theorem m37_408 : M37 408 ls (.int y :: .int x :: st) H Q = M37 409 ls (.int (x - y) :: st) H Q := w_x at_408 rfl
theorem m37_409 : M37 409 ls (.int y :: .int x :: st) H Q = if y < x then M37 412 ls st H Q else M37 419 ls st H Q := w_icmpN at_409 (i_le x y) rfl
theorem m37_412 : M37 412 ls st H Q = M37 414 ls (.int (-2) :: st) H Q := w_con at_412 rfl (by decide)
theorem m37_414i : M37 414 [l0, l1, l2, l3, l4, l5, l6, l7, l8, l9, l10, l11, l12, l13, l14, l15, l16, l17, l18, l19, l20, l21, l22, l23, l24, l25, l26, l27, l28, l29, .val (.int z), l31, l32] ((.int v) :: st) H Q = M37 416 [l0, l1, l2, l3, l4, l5, l6, l7, l8, l9, l10, l11, l12, l13, l14, l15, l16, l17, l18, l19, l20, l21, l22, l23, l24, l25, l26, l27, l28, l29, .val (.int v), l31, l32] st H Q := w_st (i := 30) (p := isI) at_414 rfl rfl rfl rfl rfl rfl
theorem m37_416 : M37 416 ls st H Q = M37 456 ls st H Q := w_x at_416 rfl
theorem m37_419 : M37 419 ls st H Q = M37 420 ls (.long 1 :: st) H Q := w_con at_419 rfl (by decide)
theorem m37_420 : M37 420 [l0, l1, l2, l3, l4, l5, l6, l7, l8, l9, l10, l11, l12, l13, l14, l15, l16, l17, l18, l19, l20, l21, l22, l23, l24, l25, l26, l27, l28, .val (.int v), l30, l31, l32] st H Q = M37 422 [l0, l1, l2, l3, l4, l5, l6, l7, l8, l9, l10, l11, l12, l13, l14, l15, l16, l17, l18, l19, l20, l21, l22, l23, l24, l25, l26, l27, l28, .val (.int v), l30, l31, l32] (.int v :: st) H Q := w_x at_420 rfl
theorem m37_422 : M37 422 ls (.int y :: .long J1 :: st) H Q = M37 423 ls (.long (J1 <<< (y.toInt64 &&& 63)) :: st) H Q := w_x at_422 rfl
theorem m37_423 : M37 423 ls st H Q = M37 424 ls (.long 1 :: st) H Q := w_con at_423 rfl (by decide)
theorem m37_424 : M37 424 ls (.long J2 :: .long J1 :: st) H Q = M37 425 ls (.long (J1 - J2) :: st) H Q := w_x at_424 rfl
theorem m37_425 : M37 425 [l0, l1, l2, l3, l4, l5, l6, l7, l8, l9, l10, l11, l12, l13, l14, l15, l16, l17, l18, l19, l20, l21, l22, l23, l24, l25, l26, l27, .val (.int v), l29, l30, l31, l32] st H Q = M37 427 [l0, l1, l2, l3, l4, l5, l6, l7, l8, l9, l10, l11, l12, l13, l14, l15, l16, l17, l18, l19, l20, l21, l22, l23, l24, l25, l26, l27, .val (.int v), l29, l30, l31, l32] (.int v :: st) H Q := w_x at_425 rfl
theorem m37_427 : M37 427 ls (.int y :: .long J1 :: st) H Q = M37 428 ls (.long (J1 <<< (y.toInt64 &&& 63)) :: st) H Q := w_x at_427 rfl
theorem m37_428 : M37 428 [l0, l1, l2, l3, l4, l5, l6, l7, l8, l9, l10, l11, l12, l13, l14, l15, l16, l17, l18, l19, l20, l21, l22, l23, l24, l25, l26, l27, l28, l29, l30, .val (.long J2), .second] (.long J1 :: st) H Q = M37 430 [l0, l1, l2, l3, l4, l5, l6, l7, l8, l9, l10, l11, l12, l13, l14, l15, l16, l17, l18, l19, l20, l21, l22, l23, l24, l25, l26, l27, l28, l29, l30, .val (.long J1), .second] st H Q := w_x at_428 rfl
theorem m37_430 : M37 430 [l0, l1, l2, l3, l4, l5, l6, l7, l8, l9, l10, l11, l12, l13, l14, .val (.long J1), l16, l17, l18, l19, l20, l21, l22, l23, l24, l25, l26, l27, l28, l29, l30, l31, l32] st H Q = M37 432 [l0, l1, l2, l3, l4, l5, l6, l7, l8, l9, l10, l11, l12, l13, l14, .val (.long J1), l16, l17, l18, l19, l20, l21, l22, l23, l24, l25, l26, l27, l28, l29, l30, l31, l32] (.long J1 :: st) H Q := w_x at_430 rfl
theorem m37_432 : M37 432 [l0, l1, l2, l3, l4, l5, l6, l7, l8, l9, l10, l11, l12, l13, l14, l15, l16, l17, l18, l19, l20, l21, l22, l23, l24, l25, l26, .val (.int v), l28, l29, l30, l31, l32] st H Q = M37 434 [l0, l1, l2, l3, l4, l5, l6, l7, l8, l9, l10, l11, l12, l13, l14, l15, l16, l17, l18, l19, l20, l21, l22, l23, l24, l25, l26, .val (.int v), l28, l29, l30, l31, l32] (.int v :: st) H Q := w_x at_432 rfl
theorem m37_434 : M37 434 ls (.int y :: .long J1 :: st) H Q = M37 435 ls (.long (XT.ushrL J1 y) :: st) H Q := w_x at_434 rfl
theorem m37_435 : M37 435 ls st H Q = M37 436 ls (.long 1 :: st) H Q := w_con at_435 rfl (by decide)
theorem m37_436 : M37 436 ls (.long J2 :: .long J1 :: st) H Q = M37 437 ls (.long (J1 &&& J2) :: st) H Q := w_x at_436 rfl
theorem m37_437 : M37 437 ls st H Q = M37 438 ls (.long 0 :: st) H Q := w_con at_437 rfl (by decide)
theorem m37_438 : M37 438 ls (.long J2 :: .long J1 :: st) H Q = M37 439 ls (.int (XT.cmpL J1 J2) :: st) H Q := w_x at_438 rfl
theorem m37_439 : M37 439 ls (.int x :: st) H Q = if x = 0 then M37 442 ls st H Q else M37 452 ls st H Q := w_ifN at_439 (z_ne x) rfl
theorem m37_442 : M37 442 [l0, l1, l2, l3, l4, l5, l6, l7, l8, l9, l10, l11, l12, l13, l14, l15, l16, .val (.long J1), l18, l19, l20, l21, l22, l23, l24, l25, l26, l27, l28, l29, l30, l31, l32] st H Q = M37 444 [l0, l1, l2, l3, l4, l5, l6, l7, l8, l9, l10, l11, l12, l13, l14, l15, l16, .val (.long J1), l18, l19, l20, l21, l22, l23, l24, l25, l26, l27, l28, l29, l30, l31, l32] (.long J1 :: st) H Q := w_x at_442 rfl
theorem m37_444 : M37 444 [l0, l1, l2, l3, l4, l5, l6, l7, l8, l9, l10, l11, l12, l13, l14, l15, l16, l17, l18, l19, l20, l21, l22, l23, l24, l25, l26, l27, l28, l29, l30, .val (.long J1), l32] st H Q = M37 446 [l0, l1, l2, l3, l4, l5, l6, l7, l8, l9, l10, l11, l12, l13, l14, l15, l16, l17, l18, l19, l20, l21, l22, l23, l24, l25, l26, l27, l28, l29, l30, .val (.long J1), l32] (.long J1 :: st) H Q := w_x at_444 rfl
theorem m37_446 : M37 446 ls (.long J2 :: .long J1 :: st) H Q = M37 447 ls (.long (J1 &&& J2) :: st) H Q := w_x at_446 rfl
theorem m37_447 : M37 447 ls st H Q = M37 448 ls (.long 0 :: st) H Q := w_con at_447 rfl (by decide)
theorem m37_448 : M37 448 ls (.long J2 :: .long J1 :: st) H Q = M37 449 ls (.int (XT.cmpL J1 J2) :: st) H Q := w_x at_448 rfl
theorem m37_449 : M37 449 ls (.int x :: st) H Q = if x = 0 then M37 456 ls st H Q else M37 452 ls st H Q := w_if at_449 (z_eq x) rfl
theorem m37_452 : M37 452 ls st H Q = M37 454 ls (.int (-5) :: st) H Q := w_con at_452 rfl (by decide)
theorem m37_454i : M37 454 [l0, l1, l2, l3, l4, l5, l6, l7, l8, l9, l10, l11, l12, l13, l14, l15, l16, l17, l18, l19, l20, l21, l22, l23, l24, l25, l26, l27, l28, l29, .val (.int z), l31, l32] ((.int v) :: st) H Q = M37 456 [l0, l1, l2, l3, l4, l5, l6, l7, l8, l9, l10, l11, l12, l13, l14, l15, l16, l17, l18, l19, l20, l21, l22, l23, l24, l25, l26, l27, l28, l29, .val (.int v), l31, l32] st H Q := w_st (i := 30) (p := isI) at_454 rfl rfl rfl rfl rfl rfl
theorem m37_456 : M37 456 [l0, l1, .val (.ref r), l3, l4, l5, l6, l7, l8, l9, l10, l11, l12, l13, l14, l15, l16, l17, l18, l19, l20, l21, l22, l23, l24, l25, l26, l27, l28, l29, l30, l31, l32] st H Q = M37 457 [l0, l1, .val (.ref r), l3, l4, l5, l6, l7, l8, l9, l10, l11, l12, l13, l14, l15, l16, l17, l18, l19, l20, l21, l22, l23, l24, l25, l26, l27, l28, l29, l30, l31, l32] (.ref r :: st) H Q := w_x at_456 rfl
theorem m37_457 : M37 457 [l0, l1, l2, l3, l4, l5, l6, l7, l8, l9, l10, l11, l12, l13, l14, l15, l16, l17, l18, l19, l20, l21, l22, l23, l24, l25, l26, .val (.int v), l28, l29, l30, l31, l32] st H Q = M37 459 [l0, l1, l2, l3, l4, l5, l6, l7, l8, l9, l10, l11, l12, l13, l14, l15, l16, l17, l18, l19, l20, l21, l22, l23, l24, l25, l26, .val (.int v), l28, l29, l30, l31, l32] (.int v :: st) H Q := w_x at_457 rfl
theorem m37_459 : M37 459 [l0, l1, l2, l3, l4, l5, l6, l7, l8, l9, l10, l11, l12, l13, l14, l15, l16, l17, l18, l19, l20, l21, l22, l23, l24, l25, l26, l27, .val (.int v), l29, l30, l31, l32] st H Q = M37 461 [l0, l1, l2, l3, l4, l5, l6, l7, l8, l9, l10, l11, l12, l13, l14, l15, l16, l17, l18, l19, l20, l21, l22, l23, l24, l25, l26, l27, .val (.int v), l29, l30, l31, l32] (.int v :: st) H Q := w_x at_459 rfl
theorem m37_461 : M37 461 [l0, l1, l2, l3, l4, l5, l6, l7, l8, l9, l10, l11, l12, l13, l14, l15, l16, l17, l18, l19, l20, l21, l22, l23, l24, l25, l26, l27, l28, .val (.int v), l30, l31, l32] st H Q = M37 463 [l0, l1, l2, l3, l4, l5, l6, l7, l8, l9, l10, l11, l12, l13, l14, l15, l16, l17, l18, l19, l20, l21, l22, l23, l24, l25, l26, l27, l28, .val (.int v), l30, l31, l32] (.int v :: st) H Q := w_x at_461 rfl
theorem cr37_16 : vR tables_1 dn y37 16 = some (false, y12, prog_1_method_4_code, 4, (some .int), 3, 38) := vR_of (cR_of (by decide +kernel) rc_12 dn_12 dn_37 (sig := ⟨[.int, .int, .int], some .int⟩) (by decide +kernel) (by decide +kernel) rfl rfl) (by decide +kernel) (by decide +kernel) (by decide +kernel)
theorem m37_463 (a0 : Int32) (a1 : Int32) (a2 : Int32) : M37 463 ls [.int a2, .int a1, .int a0, .ref (b + 1)] (put (b + 1) pre s A post) Q = M12 0 [.val (.ref (b + 1)), .val (.int a0), .val (.int a1), .val (.int a2)] [] (put (b + 1) pre s A post) (fun v H1 => M37 466 ls (v.toList ++ []) H1 Q) := w_virt (as := [.int a2, .int a1, .int a0]) (rest := []) (a := (b + 1)) at_463 cr37_16 put_o rfl rfl (Nat.le_of_ble_eq_true rfl) (by show 4 ≤ 4; omega) rfl
theorem m37_466 : M37 466 [l0, l1, l2, l3, l4, l5, l6, l7, l8, l9, l10, l11, l12, l13, l14, l15, l16, l17, l18, l19, l20, l21, l22, l23, l24, l25, l26, l27, l28, l29, .val (.int v), l31, l32] st H Q = M37 468 [l0, l1, l2, l3, l4, l5, l6, l7, l8, l9, l10, l11, l12, l13, l14, l15, l16, l17, l18, l19, l20, l21, l22, l23, l24, l25, l26, l27, l28, l29, .val (.int v), l31, l32] (.int v :: st) H Q := w_x at_466 rfl
theorem m37_468 : M37 468 ls (.int y :: .int x :: st) H Q = if x = y then M37 473 ls st H Q else M37 471 ls st H Q := w_icmp at_468 (i_eq x y) rfl
theorem m37_471 : M37 471 ls st H Q = M37 472 ls (.int 0 :: st) H Q := w_con at_471 rfl (by decide)
theorem m37_472 : M37 472 ls (.int z :: st) H Q = Q (some (.int (nar .boolean z))) H := w_iretN at_472 rfl (by simp)
theorem m37_473 : M37 473 [l0, l1, l2, l3, l4, l5, l6, l7, l8, l9, l10, l11, l12, l13, l14, l15, l16, l17, l18, l19, l20, l21, l22, l23, l24, l25, l26, l27, l28, l29, .val (.int v), l31, l32] st H Q = M37 475 [l0, l1, l2, l3, l4, l5, l6, l7, l8, l9, l10, l11, l12, l13, l14, l15, l16, l17, l18, l19, l20, l21, l22, l23, l24, l25, l26, l27, l28, l29, .val (.int v), l31, l32] (.int v :: st) H Q := w_x at_473 rfl
theorem m37_475 : M37 475 ls (.int x :: st) H Q = if x = 0 then M37 478 ls st H Q else M37 494 ls st H Q := w_ifN at_475 (z_ne x) rfl
theorem m37_478 : M37 478 [l0, l1, l2, l3, l4, l5, l6, l7, l8, l9, l10, l11, l12, l13, l14, .val (.long J1), l16, l17, l18, l19, l20, l21, l22, l23, l24, l25, l26, l27, l28, l29, l30, l31, l32] st H Q = M37 480 [l0, l1, l2, l3, l4, l5, l6, l7, l8, l9, l10, l11, l12, l13, l14, .val (.long J1), l16, l17, l18, l19, l20, l21, l22, l23, l24, l25, l26, l27, l28, l29, l30, l31, l32] (.long J1 :: st) H Q := w_x at_478 rfl
theorem m37_480 : M37 480 ls st H Q = M37 481 ls (.long 1 :: st) H Q := w_con at_480 rfl (by decide)
theorem m37_481 : M37 481 [l0, l1, l2, l3, l4, l5, l6, l7, l8, l9, l10, l11, l12, l13, l14, l15, l16, l17, l18, l19, l20, l21, l22, l23, l24, l25, l26, .val (.int v), l28, l29, l30, l31, l32] st H Q = M37 483 [l0, l1, l2, l3, l4, l5, l6, l7, l8, l9, l10, l11, l12, l13, l14, l15, l16, l17, l18, l19, l20, l21, l22, l23, l24, l25, l26, .val (.int v), l28, l29, l30, l31, l32] (.int v :: st) H Q := w_x at_481 rfl
theorem m37_483 : M37 483 ls (.int y :: .long J1 :: st) H Q = M37 484 ls (.long (J1 <<< (y.toInt64 &&& 63)) :: st) H Q := w_x at_483 rfl
theorem m37_484 : M37 484 ls (.long J2 :: .long J1 :: st) H Q = M37 485 ls (.long (J1 ||| J2) :: st) H Q := w_x at_484 rfl
theorem m37_485 : M37 485 [l0, l1, l2, l3, l4, l5, l6, l7, l8, l9, l10, l11, l12, l13, l14, .val (.long J2), .second, l17, l18, l19, l20, l21, l22, l23, l24, l25, l26, l27, l28, l29, l30, l31, l32] (.long J1 :: st) H Q = M37 487 [l0, l1, l2, l3, l4, l5, l6, l7, l8, l9, l10, l11, l12, l13, l14, .val (.long J1), .second, l17, l18, l19, l20, l21, l22, l23, l24, l25, l26, l27, l28, l29, l30, l31, l32] st H Q := w_x at_485 rfl
theorem m37_487 : M37 487 [l0, l1, l2, l3, l4, l5, l6, l7, l8, l9, l10, l11, l12, l13, l14, l15, l16, .val (.long J1), l18, l19, l20, l21, l22, l23, l24, l25, l26, l27, l28, l29, l30, l31, l32] st H Q = M37 489 [l0, l1, l2, l3, l4, l5, l6, l7, l8, l9, l10, l11, l12, l13, l14, l15, l16, .val (.long J1), l18, l19, l20, l21, l22, l23, l24, l25, l26, l27, l28, l29, l30, l31, l32] (.long J1 :: st) H Q := w_x at_487 rfl
theorem m37_489 : M37 489 [l0, l1, l2, l3, l4, l5, l6, l7, l8, l9, l10, l11, l12, l13, l14, l15, l16, l17, l18, l19, l20, l21, l22, l23, l24, l25, l26, l27, l28, l29, l30, .val (.long J1), l32] st H Q = M37 491 [l0, l1, l2, l3, l4, l5, l6, l7, l8, l9, l10, l11, l12, l13, l14, l15, l16, l17, l18, l19, l20, l21, l22, l23, l24, l25, l26, l27, l28, l29, l30, .val (.long J1), l32] (.long J1 :: st) H Q := w_x at_489 rfl
theorem m37_491 : M37 491 ls (.long J2 :: .long J1 :: st) H Q = M37 492 ls (.long (J1 ||| J2) :: st) H Q := w_x at_491 rfl
theorem m37_492 : M37 492 [l0, l1, l2, l3, l4, l5, l6, l7, l8, l9, l10, l11, l12, l13, l14, l15, l16, .val (.long J2), .second, l19, l20, l21, l22, l23, l24, l25, l26, l27, l28, l29, l30, l31, l32] (.long J1 :: st) H Q = M37 494 [l0, l1, l2, l3, l4, l5, l6, l7, l8, l9, l10, l11, l12, l13, l14, l15, l16, .val (.long J1), .second, l19, l20, l21, l22, l23, l24, l25, l26, l27, l28, l29, l30, l31, l32] st H Q := w_x at_492 rfl
theorem m37_494 : M37 494 ls st H Q = M37 743 ls st H Q := w_x at_494 rfl
theorem m37_497 : M37 497 [l0, l1, l2, l3, l4, l5, l6, l7, l8, l9, l10, l11, l12, l13, l14, l15, l16, l17, l18, l19, l20, l21, .val (.int v), l23, l24, l25, l26, l27, l28, l29, l30, l31, l32] st H Q = M37 499 [l0, l1, l2, l3, l4, l5, l6, l7, l8, l9, l10, l11, l12, l13, l14, l15, l16, l17, l18, l19, l20, l21, .val (.int v), l23, l24, l25, l26, l27, l28, l29, l30, l31, l32] (.int v :: st) H Q := w_x at_497 rfl
theorem m37_499 : M37 499 ls st H Q = M37 500 ls (.int 2 :: st) H Q := w_con at_499 rfl (by decide)
theorem m37_500 : M37 500 ls (.int y :: .int x :: st) H Q = if x = y then M37 503 ls st H Q else M37 678 ls st H Q := w_icmpN at_500 (i_ne x y) rfl
theorem m37_503 : M37 503 [l0, l1, .val (.ref r), l3, l4, l5, l6, l7, l8, l9, l10, l11, l12, l13, l14, l15, l16, l17, l18, l19, l20, l21, l22, l23, l24, l25, l26, l27, l28, l29, l30, l31, l32] st H Q = M37 504 [l0, l1, .val (.ref r), l3, l4, l5, l6, l7, l8, l9, l10, l11, l12, l13, l14, l15, l16, l17, l18, l19, l20, l21, l22, l23, l24, l25, l26, l27, l28, l29, l30, l31, l32] (.ref r :: st) H Q := w_x at_503 rfl
theorem cr37_20 : vR tables_1 dn y37 20 = some (false, y2, prog_1_method_6_code, 4, (some .int), 0, 0) := vR_of (cR_of (by decide +kernel) rc_2 dn_2 dn_37 (sig := ⟨[], some .int⟩) (by decide +kernel) (by decide +kernel) rfl rfl) (by decide +kernel) (by decide +kernel) (by decide +kernel)
theorem m37_504 : M37 504 ls [.ref (b + 1)] (put (b + 1) pre s A post) Q = M2 0 [.val (.ref (b + 1)), .unset, .unset, .unset] [] (put (b + 1) pre s A post) (fun v H1 => M37 507 ls (v.toList ++ []) H1 Q) := w_virt (as := []) (rest := []) (a := (b + 1)) at_504 cr37_20 put_o rfl rfl (Nat.le_of_ble_eq_true rfl) (by show 1 ≤ 4; omega) rfl
theorem m37_507u : M37 507 [l0, l1, l2, l3, l4, l5, l6, l7, l8, l9, l10, l11, l12, l13, l14, l15, l16, l17, l18, l19, l20, l21, l22, l23, l24, l25, l26, .unset, l28, l29, l30, l31, l32] ((.int v) :: st) H Q = M37 509 [l0, l1, l2, l3, l4, l5, l6, l7, l8, l9, l10, l11, l12, l13, l14, l15, l16, l17, l18, l19, l20, l21, l22, l23, l24, l25, l26, .val (.int v), l28, l29, l30, l31, l32] st H Q := w_st (i := 27) (p := isI) at_507 rfl rfl rfl rfl rfl rfl
theorem m37_507i : M37 507 [l0, l1, l2, l3, l4, l5, l6, l7, l8, l9, l10, l11, l12, l13, l14, l15, l16, l17, l18, l19, l20, l21, l22, l23, l24, l25, l26, .val (.int z), l28, l29, l30, l31, l32] ((.int v) :: st) H Q = M37 509 [l0, l1, l2, l3, l4, l5, l6, l7, l8, l9, l10, l11, l12, l13, l14, l15, l16, l17, l18, l19, l20, l21, l22, l23, l24, l25, l26, .val (.int v), l28, l29, l30, l31, l32] st H Q := w_st (i := 27) (p := isI) at_507 rfl rfl rfl rfl rfl rfl
theorem m37_507r : M37 507 [l0, l1, l2, l3, l4, l5, l6, l7, l8, l9, l10, l11, l12, l13, l14, l15, l16, l17, l18, l19, l20, l21, l22, l23, l24, l25, l26, .val (.ref q), l28, l29, l30, l31, l32] ((.int v) :: st) H Q = M37 509 [l0, l1, l2, l3, l4, l5, l6, l7, l8, l9, l10, l11, l12, l13, l14, l15, l16, l17, l18, l19, l20, l21, l22, l23, l24, l25, l26, .val (.int v), l28, l29, l30, l31, l32] st H Q := w_st (i := 27) (p := isI) at_507 rfl rfl rfl rfl rfl rfl
theorem m37_507g (h : okS l27) : M37 507 [l0, l1, l2, l3, l4, l5, l6, l7, l8, l9, l10, l11, l12, l13, l14, l15, l16, l17, l18, l19, l20, l21, l22, l23, l24, l25, l26, l27, l28, l29, l30, l31, l32] ((.int v) :: st) H Q = M37 509 [l0, l1, l2, l3, l4, l5, l6, l7, l8, l9, l10, l11, l12, l13, l14, l15, l16, l17, l18, l19, l20, l21, l22, l23, l24, l25, l26, .val (.int v), l28, l29, l30, l31, l32] st H Q := by rcases h with rfl | ⟨z, rfl⟩ <;> first | exact m37_507u | exact m37_507i
theorem m37_509 : M37 509 [l0, l1, l2, l3, l4, l5, l6, l7, l8, l9, l10, l11, .val (.int v), l13, l14, l15, l16, l17, l18, l19, l20, l21, l22, l23, l24, l25, l26, l27, l28, l29, l30, l31, l32] st H Q = M37 511 [l0, l1, l2, l3, l4, l5, l6, l7, l8, l9, l10, l11, .val (.int v), l13, l14, l15, l16, l17, l18, l19, l20, l21, l22, l23, l24, l25, l26, l27, l28, l29, l30, l31, l32] (.int v :: st) H Q := w_x at_509 rfl
theorem m37_511 : M37 511 ls (.int x :: st) H Q = if x = 0 then M37 514 ls st H Q else M37 523 ls st H Q := w_ifN at_511 (z_ne x) rfl
theorem m37_514 : M37 514 [l0, l1, l2, l3, l4, l5, l6, l7, l8, l9, l10, l11, l12, l13, l14, l15, l16, l17, l18, l19, l20, l21, l22, l23, l24, l25, l26, .val (.int v), l28, l29, l30, l31, l32] st H Q = M37 516 [l0, l1, l2, l3, l4, l5, l6, l7, l8, l9, l10, l11, l12, l13, l14, l15, l16, l17, l18, l19, l20, l21, l22, l23, l24, l25, l26, .val (.int v), l28, l29, l30, l31, l32] (.int v :: st) H Q := w_x at_514 rfl
theorem m37_516 : M37 516 ls st H Q = M37 518 ls (.int (-4) :: st) H Q := w_con at_516 rfl (by decide)
theorem m37_518 : M37 518 ls (.int y :: .int x :: st) H Q = if x = y then M37 675 ls st H Q else M37 521 ls st H Q := w_icmp at_518 (i_eq x y) rfl
theorem m37_521 : M37 521 ls st H Q = M37 522 ls (.int 0 :: st) H Q := w_con at_521 rfl (by decide)
theorem m37_522 : M37 522 ls (.int z :: st) H Q = Q (some (.int (nar .boolean z))) H := w_iretN at_522 rfl (by simp)
theorem m37_523 : M37 523 ls st H Q = M37 524 ls (.int 0 :: st) H Q := w_con at_523 rfl (by decide)
theorem m37_524i : M37 524 [l0, l1, l2, l3, l4, l5, l6, l7, l8, l9, l10, l11, .val (.int z), l13, l14, l15, l16, l17, l18, l19, l20, l21, l22, l23, l24, l25, l26, l27, l28, l29, l30, l31, l32] ((.int v) :: st) H Q = M37 526 [l0, l1, l2, l3, l4, l5, l6, l7, l8, l9, l10, l11, .val (.int v), l13, l14, l15, l16, l17, l18, l19, l20, l21, l22, l23, l24, l25, l26, l27, l28, l29, l30, l31, l32] st H Q := w_st (i := 12) (p := isI) at_524 rfl rfl rfl rfl rfl rfl
theorem m37_526 : M37 526 [l0, l1, l2, l3, l4, .val (.int v), l6, l7, l8, l9, l10, l11, l12, l13, l14, l15, l16, l17, l18, l19, l20, l21, l22, l23, l24, l25, l26, l27, l28, l29, l30, l31, l32] st H Q = M37 528 [l0, l1, l2, l3, l4, .val (.int v), l6, l7, l8, l9, l10, l11, l12, l13, l14, l15, l16, l17, l18, l19, l20, l21, l22, l23, l24, l25, l26, l27, l28, l29, l30, l31, l32] (.int v :: st) H Q := w_x at_526 rfl
theorem m37_528 : M37 528 [l0, l1, l2, l3, l4, .val (.int v), l6, l7, l8, l9, l10, l11, l12, l13, l14, l15, l16, l17, l18, l19, l20, l21, l22, l23, l24, l25, l26, l27, l28, l29, l30, l31, l32] st H Q = M37 530 [l0, l1, l2, l3, l4, .val (.int v), l6, l7, l8, l9, l10, l11, l12, l13, l14, l15, l16, l17, l18, l19, l20, l21, l22, l23, l24, l25, l26, l27, l28, l29, l30, l31, l32] (.int v :: st) H Q := w_x at_528 rfl
theorem m37_530 : M37 530 [l0, l1, l2, l3, l4, l5, l6, l7, l8, l9, .val (.int v), l11, l12, l13, l14, l15, l16, l17, l18, l19, l20, l21, l22, l23, l24, l25, l26, l27, l28, l29, l30, l31, l32] st H Q = M37 532 [l0, l1, l2, l3, l4, l5, l6, l7, l8, l9, .val (.int v), l11, l12, l13, l14, l15, l16, l17, l18, l19, l20, l21, l22, l23, l24, l25, l26, l27, l28, l29, l30, l31, l32] (.int v :: st) H Q := w_x at_530 rfl
theorem cr37_24 : sR tables_1 dn y37 24 = some (y35, method_3_code, 4, (some .int), 2, 55) := sR_of (cR_of (by decide +kernel) rc_35 dn_35 dn_37 (sig := ⟨[.int, .int], some .int⟩) (by decide +kernel) (by decide +kernel) rfl rfl) (by decide +kernel)
theorem m37_532 (a0 : Int32) (a1 : Int32) (u0 : Int32) : M37 532 ls [.int a1, .int a0, .int u0] H Q = M35 0 [.val (.int a0), .val (.int a1), .unset, .unset] [] H (fun v H1 => M37 535 ls (v.toList ++ [.int u0]) H1 Q) := w_stat (as := [.int a1, .int a0]) (rest := [.int u0]) at_532 cr37_24 rfl (Nat.le_of_ble_eq_true rfl) (by show 2 ≤ 4; omega) rfl
theorem m37_535 : M37 535 ls (.int y :: .int x :: st) H Q = (y ≠ 0 ∧ M37 536 ls (.int (x / y) :: st) H Q) := w_div (f := fun x y => x / y) at_535 (fun _ => rfl) rfl rfl
theorem m37_536 : M37 536 [l0, l1, l2, l3, l4, l5, l6, l7, l8, l9, .val (.int v), l11, l12, l13, l14, l15, l16, l17, l18, l19, l20, l21, l22, l23, l24, l25, l26, l27, l28, l29, l30, l31, l32] st H Q = M37 538 [l0, l1, l2, l3, l4, l5, l6, l7, l8, l9, .val (.int v), l11, l12, l13, l14, l15, l16, l17, l18, l19, l20, l21, l22, l23, l24, l25, l26, l27, l28, l29, l30, l31, l32] (.int v :: st) H Q := w_x at_536 rfl
theorem m37_538 : M37 538 ls (.int y :: .int x :: st) H Q = M37 539 ls (.int (x * y) :: st) H Q := w_x at_538 rfl
theorem m37_539u : M37 539 [l0, l1, l2, l3, l4, l5, l6, l7, l8, l9, l10, l11, l12, l13, l14, l15, l16, l17, l18, l19, l20, l21, l22, l23, l24, l25, l26, l27, .unset, l29, l30, l31, l32] ((.int v) :: st) H Q = M37 541 [l0, l1, l2, l3, l4, l5, l6, l7, l8, l9, l10, l11, l12, l13, l14, l15, l16, l17, l18, l19, l20, l21, l22, l23, l24, l25, l26, l27, .val (.int v), l29, l30, l31, l32] st H Q := w_st (i := 28) (p := isI) at_539 rfl rfl rfl rfl rfl rfl
theorem m37_539i : M37 539 [l0, l1, l2, l3, l4, l5, l6, l7, l8, l9, l10, l11, l12, l13, l14, l15, l16, l17, l18, l19, l20, l21, l22, l23, l24, l25, l26, l27, .val (.int z), l29, l30, l31, l32] ((.int v) :: st) H Q = M37 541 [l0, l1, l2, l3, l4, l5, l6, l7, l8, l9, l10, l11, l12, l13, l14, l15, l16, l17, l18, l19, l20, l21, l22, l23, l24, l25, l26, l27, .val (.int v), l29, l30, l31, l32] st H Q := w_st (i := 28) (p := isI) at_539 rfl rfl rfl rfl rfl rfl
theorem m37_539r : M37 539 [l0, l1, l2, l3, l4, l5, l6, l7, l8, l9, l10, l11, l12, l13, l14, l15, l16, l17, l18, l19, l20, l21, l22, l23, l24, l25, l26, l27, .val (.ref q), l29, l30, l31, l32] ((.int v) :: st) H Q = M37 541 [l0, l1, l2, l3, l4, l5, l6, l7, l8, l9, l10, l11, l12, l13, l14, l15, l16, l17, l18, l19, l20, l21, l22, l23, l24, l25, l26, l27, .val (.int v), l29, l30, l31, l32] st H Q := w_st (i := 28) (p := isI) at_539 rfl rfl rfl rfl rfl rfl
theorem m37_539g (h : okS l28) : M37 539 [l0, l1, l2, l3, l4, l5, l6, l7, l8, l9, l10, l11, l12, l13, l14, l15, l16, l17, l18, l19, l20, l21, l22, l23, l24, l25, l26, l27, l28, l29, l30, l31, l32] ((.int v) :: st) H Q = M37 541 [l0, l1, l2, l3, l4, l5, l6, l7, l8, l9, l10, l11, l12, l13, l14, l15, l16, l17, l18, l19, l20, l21, l22, l23, l24, l25, l26, l27, .val (.int v), l29, l30, l31, l32] st H Q := by rcases h with rfl | ⟨z, rfl⟩ <;> first | exact m37_539u | exact m37_539i
theorem m37_541 : M37 541 [l0, l1, l2, l3, l4, l5, l6, l7, l8, l9, l10, l11, l12, l13, l14, l15, l16, l17, l18, l19, l20, l21, l22, l23, l24, l25, l26, l27, .val (.int v), l29, l30, l31, l32] st H Q = M37 543 [l0, l1, l2, l3, l4, l5, l6, l7, l8, l9, l10, l11, l12, l13, l14, l15, l16, l17, l18, l19, l20, l21, l22, l23, l24, l25, l26, l27, .val (.int v), l29, l30, l31, l32] (.int v :: st) H Q := w_x at_541 rfl
theorem m37_543 : M37 543 ls st H Q = M37 546 ls (.int 840 :: st) H Q := w_con at_543 rfl (by decide)
theorem m37_546 : M37 546 ls (.int y :: .int x :: st) H Q = if y < x then M37 549 ls st H Q else M37 564 ls st H Q := w_icmpN at_546 (i_le x y) rfl
theorem m37_549 : M37 549 [l0, l1, l2, l3, l4, l5, l6, l7, l8, l9, l10, l11, l12, l13, l14, l15, l16, l17, l18, l19, l20, l21, l22, l23, l24, l25, l26, .val (.int v), l28, l29, l30, l31, l32] st H Q = M37 551 [l0, l1, l2, l3, l4, l5, l6, l7, l8, l9, l10, l11, l12, l13, l14, l15, l16, l17, l18, l19, l20, l21, l22, l23, l24, l25, l26, .val (.int v), l28, l29, l30, l31, l32] (.int v :: st) H Q := w_x at_549 rfl
theorem m37_551 : M37 551 ls st H Q = M37 553 ls (.int (-6) :: st) H Q := w_con at_551 rfl (by decide)
theorem m37_553 : M37 553 ls (.int y :: .int x :: st) H Q = if x = y then M37 558 ls st H Q else M37 556 ls st H Q := w_icmp at_553 (i_eq x y) rfl
theorem m37_556 : M37 556 ls st H Q = M37 557 ls (.int 0 :: st) H Q := w_con at_556 rfl (by decide)
theorem m37_557 : M37 557 ls (.int z :: st) H Q = Q (some (.int (nar .boolean z))) H := w_iretN at_557 rfl (by simp)
theorem m37_558 : M37 558 ls st H Q = M37 559 ls (.int (-1) :: st) H Q := w_con at_558 rfl (by decide)
theorem m37_559i : M37 559 [l0, l1, l2, l3, l4, l5, l6, .val (.int z), l8, l9, l10, l11, l12, l13, l14, l15, l16, l17, l18, l19, l20, l21, l22, l23, l24, l25, l26, l27, l28, l29, l30, l31, l32] ((.int v) :: st) H Q = M37 561 [l0, l1, l2, l3, l4, l5, l6, .val (.int v), l8, l9, l10, l11, l12, l13, l14, l15, l16, l17, l18, l19, l20, l21, l22, l23, l24, l25, l26, l27, l28, l29, l30, l31, l32] st H Q := w_st (i := 7) (p := isI) at_559 rfl rfl rfl rfl rfl rfl
theorem m37_561 : M37 561 ls st H Q = M37 675 ls st H Q := w_x at_561 rfl
theorem m37_564 : M37 564 [l0, l1, l2, l3, l4, l5, l6, l7, l8, l9, l10, l11, l12, l13, l14, l15, l16, l17, l18, l19, l20, l21, l22, l23, l24, l25, l26, .val (.int v), l28, l29, l30, l31, l32] st H Q = M37 566 [l0, l1, l2, l3, l4, l5, l6, l7, l8, l9, l10, l11, l12, l13, l14, l15, l16, l17, l18, l19, l20, l21, l22, l23, l24, l25, l26, .val (.int v), l28, l29, l30, l31, l32] (.int v :: st) H Q := w_x at_564 rfl
theorem m37_566 : M37 566 ls st H Q = M37 568 ls (.int (-7) :: st) H Q := w_con at_566 rfl (by decide)
theorem m37_568 : M37 568 ls (.int y :: .int x :: st) H Q = if x = y then M37 571 ls st H Q else M37 591 ls st H Q := w_icmpN at_568 (i_ne x y) rfl
theorem m37_571 : M37 571 [l0, l1, .val (.ref r), l3, l4, l5, l6, l7, l8, l9, l10, l11, l12, l13, l14, l15, l16, l17, l18, l19, l20, l21, l22, l23, l24, l25, l26, l27, l28, l29, l30, l31, l32] st H Q = M37 572 [l0, l1, .val (.ref r), l3, l4, l5, l6, l7, l8, l9, l10, l11, l12, l13, l14, l15, l16, l17, l18, l19, l20, l21, l22, l23, l24, l25, l26, l27, l28, l29, l30, l31, l32] (.ref r :: st) H Q := w_x at_571 rfl
theorem cr37_30 : vR tables_1 dn y37 30 = some (false, y6, prog_1_method_22_code, 1, (some .int), 0, 58) := vR_of (cR_of (by decide +kernel) rc_6 dn_6 dn_37 (sig := ⟨[], some .int⟩) (by decide +kernel) (by decide +kernel) rfl rfl) (by decide +kernel) (by decide +kernel) (by decide +kernel)
theorem m37_572 : M37 572 ls [.ref (b + 1)] (put (b + 1) pre s A post) Q = M6 0 [.val (.ref (b + 1))] [] (put (b + 1) pre s A post) (fun v H1 => M37 575 ls (v.toList ++ []) H1 Q) := w_virt (as := []) (rest := []) (a := (b + 1)) at_572 cr37_30 put_o rfl rfl (Nat.le_of_ble_eq_true rfl) (by show 1 ≤ 1; omega) rfl
theorem m37_575i : M37 575 [l0, l1, l2, l3, l4, l5, l6, .val (.int z), l8, l9, l10, l11, l12, l13, l14, l15, l16, l17, l18, l19, l20, l21, l22, l23, l24, l25, l26, l27, l28, l29, l30, l31, l32] ((.int v) :: st) H Q = M37 577 [l0, l1, l2, l3, l4, l5, l6, .val (.int v), l8, l9, l10, l11, l12, l13, l14, l15, l16, l17, l18, l19, l20, l21, l22, l23, l24, l25, l26, l27, l28, l29, l30, l31, l32] st H Q := w_st (i := 7) (p := isI) at_575 rfl rfl rfl rfl rfl rfl
theorem m37_577 : M37 577 [l0, l1, l2, l3, l4, l5, l6, .val (.int v), l8, l9, l10, l11, l12, l13, l14, l15, l16, l17, l18, l19, l20, l21, l22, l23, l24, l25, l26, l27, l28, l29, l30, l31, l32] st H Q = M37 579 [l0, l1, l2, l3, l4, l5, l6, .val (.int v), l8, l9, l10, l11, l12, l13, l14, l15, l16, l17, l18, l19, l20, l21, l22, l23, l24, l25, l26, l27, l28, l29, l30, l31, l32] (.int v :: st) H Q := w_x at_577 rfl
theorem m37_579 : M37 579 ls (.int x :: st) H Q = if x < 0 then M37 589 ls st H Q else M37 582 ls st H Q := w_if at_579 (z_lt x) rfl
theorem m37_582 : M37 582 [l0, l1, l2, l3, l4, l5, l6, .val (.int v), l8, l9, l10, l11, l12, l13, l14, l15, l16, l17, l18, l19, l20, l21, l22, l23, l24, l25, l26, l27, l28, l29, l30, l31, l32] st H Q = M37 584 [l0, l1, l2, l3, l4, l5, l6, .val (.int v), l8, l9, l10, l11, l12, l13, l14, l15, l16, l17, l18, l19, l20, l21, l22, l23, l24, l25, l26, l27, l28, l29, l30, l31, l32] (.int v :: st) H Q := w_x at_582 rfl
theorem m37_584 : M37 584 [l0, l1, l2, l3, .val (.int v), l5, l6, l7, l8, l9, l10, l11, l12, l13, l14, l15, l16, l17, l18, l19, l20, l21, l22, l23, l24, l25, l26, l27, l28, l29, l30, l31, l32] st H Q = M37 586 [l0, l1, l2, l3, .val (.int v), l5, l6, l7, l8, l9, l10, l11, l12, l13, l14, l15, l16, l17, l18, l19, l20, l21, l22, l23, l24, l25, l26, l27, l28, l29, l30, l31, l32] (.int v :: st) H Q := w_x at_584 rfl
theorem m37_586 : M37 586 ls (.int y :: .int x :: st) H Q = if y < x then M37 589 ls st H Q else M37 675 ls st H Q := w_icmpN at_586 (i_le x y) rfl
theorem m37_589 : M37 589 ls st H Q = M37 590 ls (.int 0 :: st) H Q := w_con at_589 rfl (by decide)
theorem m37_590 : M37 590 ls (.int z :: st) H Q = Q (some (.int (nar .boolean z))) H := w_iretN at_590 rfl (by simp)
theorem m37_591 : M37 591 [l0, l1, l2, l3, l4, l5, l6, l7, l8, l9, l10, l11, l12, l13, l14, l15, l16, l17, l18, l19, l20, l21, l22, l23, l24, l25, l26, .val (.int v), l28, l29, l30, l31, l32] st H Q = M37 593 [l0, l1, l2, l3, l4, l5, l6, l7, l8, l9, l10, l11, l12, l13, l14, l15, l16, l17, l18, l19, l20, l21, l22, l23, l24, l25, l26, .val (.int v), l28, l29, l30, l31, l32] (.int v :: st) H Q := w_x at_591 rfl
theorem m37_593 : M37 593 [l0, l1, l2, l3, .val (.int v), l5, l6, l7, l8, l9, l10, l11, l12, l13, l14, l15, l16, l17, l18, l19, l20, l21, l22, l23, l24, l25, l26, l27, l28, l29, l30, l31, l32] st H Q = M37 595 [l0, l1, l2, l3, .val (.int v), l5, l6, l7, l8, l9, l10, l11, l12, l13, l14, l15, l16, l17, l18, l19, l20, l21, l22, l23, l24, l25, l26, l27, l28, l29, l30, l31, l32] (.int v :: st) H Q := w_x at_593 rfl
theorem m37_595 : M37 595 ls (.int y :: .int x :: st) H Q = if x = y then M37 600 ls st H Q else M37 598 ls st H Q := w_icmp at_595 (i_eq x y) rfl
theorem m37_598 : M37 598 ls st H Q = M37 599 ls (.int 0 :: st) H Q := w_con at_598 rfl (by decide)
theorem m37_599 : M37 599 ls (.int z :: st) H Q = Q (some (.int (nar .boolean z))) H := w_iretN at_599 rfl (by simp)
theorem m37_600 : M37 600 [l0, l1, l2, l3, .val (.int v), l5, l6, l7, l8, l9, l10, l11, l12, l13, l14, l15, l16, l17, l18, l19, l20, l21, l22, l23, l24, l25, l26, l27, l28, l29, l30, l31, l32] st H Q = M37 603 [l0, l1, l2, l3, .val (.int (v + 1)), l5, l6, l7, l8, l9, l10, l11, l12, l13, l14, l15, l16, l17, l18, l19, l20, l21, l22, l23, l24, l25, l26, l27, l28, l29, l30, l31, l32] st H Q := w_iinc at_600 rfl (by decide) rfl
theorem m37_603 : M37 603 [l0, l1, l2, l3, l4, l5, l6, l7, l8, l9, l10, l11, l12, l13, l14, l15, l16, l17, l18, l19, l20, l21, l22, l23, l24, l25, l26, l27, .val (.int v), l29, l30, l31, l32] st H Q = M37 605 [l0, l1, l2, l3, l4, l5, l6, l7, l8, l9, l10, l11, l12, l13, l14, l15, l16, l17, l18, l19, l20, l21, l22, l23, l24, l25, l26, l27, .val (.int v), l29, l30, l31, l32] (.int v :: st) H Q := w_x at_603 rfl
theorem m37_605i : M37 605 [l0, l1, l2, l3, l4, .val (.int z), l6, l7, l8, l9, l10, l11, l12, l13, l14, l15, l16, l17, l18, l19, l20, l21, l22, l23, l24, l25, l26, l27, l28, l29, l30, l31, l32] ((.int v) :: st) H Q = M37 607 [l0, l1, l2, l3, l4, .val (.int v), l6, l7, l8, l9, l10, l11, l12, l13, l14, l15, l16, l17, l18, l19, l20, l21, l22, l23, l24, l25, l26, l27, l28, l29, l30, l31, l32] st H Q := w_st (i := 5) (p := isI) at_605 rfl rfl rfl rfl rfl rfl
theorem m37_607 : M37 607 ls st H Q = M37 608 ls (.int (-1) :: st) H Q := w_con at_607 rfl (by decide)
theorem m37_608i : M37 608 [l0, l1, l2, l3, l4, l5, l6, .val (.int z), l8, l9, l10, l11, l12, l13, l14, l15, l16, l17, l18, l19, l20, l21, l22, l23, l24, l25, l26, l27, l28, l29, l30, l31, l32] ((.int v) :: st) H Q = M37 610 [l0, l1, l2, l3, l4, l5, l6, .val (.int v), l8, l9, l10, l11, l12, l13, l14, l15, l16, l17, l18, l19, l20, l21, l22, l23, l24, l25, l26, l27, l28, l29, l30, l31, l32] st H Q := w_st (i := 7) (p := isI) at_608 rfl rfl rfl rfl rfl rfl
theorem m37_610 : M37 610 ls st H Q = M37 611 ls (.int 0 :: st) H Q := w_con at_610 rfl (by decide)
theorem m37_611i : M37 611 [l0, l1, l2, l3, l4, l5, .val (.int z), l7, l8, l9, l10, l11, l12, l13, l14, l15, l16, l17, l18, l19, l20, l21, l22, l23, l24, l25, l26, l27, l28, l29, l30, l31, l32] ((.int v) :: st) H Q = M37 613 [l0, l1, l2, l3, l4, l5, .val (.int v), l7, l8, l9, l10, l11, l12, l13, l14, l15, l16, l17, l18, l19, l20, l21, l22, l23, l24, l25, l26, l27, l28, l29, l30, l31, l32] st H Q := w_st (i := 6) (p := isI) at_611 rfl rfl rfl rfl rfl rfl
theorem m37_613 : M37 613 ls st H Q = M37 614 ls (.int 0 :: st) H Q := w_con at_613 rfl (by decide)
theorem m37_614i : M37 614 [l0, l1, l2, l3, l4, l5, l6, l7, l8, l9, l10, .val (.int z), l12, l13, l14, l15, l16, l17, l18, l19, l20, l21, l22, l23, l24, l25, l26, l27, l28, l29, l30, l31, l32] ((.int v) :: st) H Q = M37 616 [l0, l1, l2, l3, l4, l5, l6, l7, l8, l9, l10, .val (.int v), l12, l13, l14, l15, l16, l17, l18, l19, l20, l21, l22, l23, l24, l25, l26, l27, l28, l29, l30, l31, l32] st H Q := w_st (i := 11) (p := isI) at_614 rfl rfl rfl rfl rfl rfl
theorem m37_616 : M37 616 [l0, l1, l2, l3, l4, l5, l6, l7, l8, l9, l10, l11, l12, .val (.long J1), l14, l15, l16, l17, l18, l19, l20, l21, l22, l23, l24, l25, l26, l27, l28, l29, l30, l31, l32] st H Q = M37 618 [l0, l1, l2, l3, l4, l5, l6, l7, l8, l9, l10, l11, l12, .val (.long J1), l14, l15, l16, l17, l18, l19, l20, l21, l22, l23, l24, l25, l26, l27, l28, l29, l30, l31, l32] (.long J1 :: st) H Q := w_x at_616 rfl
theorem m37_618 : M37 618 ls st H Q = M37 619 ls (.long 1 :: st) H Q := w_con at_618 rfl (by decide)
theorem m37_619 : M37 619 [l0, l1, l2, l3, l4, l5, l6, l7, l8, .val (.int v), l10, l11, l12, l13, l14, l15, l16, l17, l18, l19, l20, l21, l22, l23, l24, l25, l26, l27, l28, l29, l30, l31, l32] st H Q = M37 621 [l0, l1, l2, l3, l4, l5, l6, l7, l8, .val (.int v), l10, l11, l12, l13, l14, l15, l16, l17, l18, l19, l20, l21, l22, l23, l24, l25, l26, l27, l28, l29, l30, l31, l32] (.int v :: st) H Q := w_x at_619 rfl
theorem m37_621 : M37 621 ls (.int y :: .long J1 :: st) H Q = M37 622 ls (.long (J1 <<< (y.toInt64 &&& 63)) :: st) H Q := w_x at_621 rfl
theorem m37_622 : M37 622 ls (.long J2 :: .long J1 :: st) H Q = M37 623 ls (.long (J1 ||| J2) :: st) H Q := w_x at_622 rfl
theorem m37_623 : M37 623 [l0, l1, l2, l3, l4, l5, l6, l7, l8, l9, l10, l11, l12, .val (.long J2), .second, l15, l16, l17, l18, l19, l20, l21, l22, l23, l24, l25, l26, l27, l28, l29, l30, l31, l32] (.long J1 :: st) H Q = M37 625 [l0, l1, l2, l3, l4, l5, l6, l7, l8, l9, l10, l11, l12, .val (.long J1), .second, l15, l16, l17, l18, l19, l20, l21, l22, l23, l24, l25, l26, l27, l28, l29, l30, l31, l32] st H Q := w_x at_623 rfl
theorem m37_625 : M37 625 ls st H Q = M37 626 ls (.int 0 :: st) H Q := w_con at_625 rfl (by decide)
theorem m37_626u : M37 626 [l0, l1, l2, l3, l4, l5, l6, l7, l8, l9, l10, l11, l12, l13, l14, l15, l16, l17, l18, l19, l20, l21, l22, l23, l24, l25, l26, l27, l28, .unset, l30, l31, l32] ((.int v) :: st) H Q = M37 628 [l0, l1, l2, l3, l4, l5, l6, l7, l8, l9, l10, l11, l12, l13, l14, l15, l16, l17, l18, l19, l20, l21, l22, l23, l24, l25, l26, l27, l28, .val (.int v), l30, l31, l32] st H Q := w_st (i := 29) (p := isI) at_626 rfl rfl rfl rfl rfl rfl
theorem m37_626i : M37 626 [l0, l1, l2, l3, l4, l5, l6, l7, l8, l9, l10, l11, l12, l13, l14, l15, l16, l17, l18, l19, l20, l21, l22, l23, l24, l25, l26, l27, l28, .val (.int z), l30, l31, l32] ((.int v) :: st) H Q = M37 628 [l0, l1, l2, l3, l4, l5, l6, l7, l8, l9, l10, l11, l12, l13, l14, l15, l16, l17, l18, l19, l20, l21, l22, l23, l24, l25, l26, l27, l28, .val (.int v), l30, l31, l32] st H Q := w_st (i := 29) (p := isI) at_626 rfl rfl rfl rfl rfl rfl
theorem m37_626r : M37 626 [l0, l1, l2, l3, l4, l5, l6, l7, l8, l9, l10, l11, l12, l13, l14, l15, l16, l17, l18, l19, l20, l21, l22, l23, l24, l25, l26, l27, l28, .val (.ref q), l30, l31, l32] ((.int v) :: st) H Q = M37 628 [l0, l1, l2, l3, l4, l5, l6, l7, l8, l9, l10, l11, l12, l13, l14, l15, l16, l17, l18, l19, l20, l21, l22, l23, l24, l25, l26, l27, l28, .val (.int v), l30, l31, l32] st H Q := w_st (i := 29) (p := isI) at_626 rfl rfl rfl rfl rfl rfl
theorem m37_626g (h : okS l29) : M37 626 [l0, l1, l2, l3, l4, l5, l6, l7, l8, l9, l10, l11, l12, l13, l14, l15, l16, l17, l18, l19, l20, l21, l22, l23, l24, l25, l26, l27, l28, l29, l30, l31, l32] ((.int v) :: st) H Q = M37 628 [l0, l1, l2, l3, l4, l5, l6, l7, l8, l9, l10, l11, l12, l13, l14, l15, l16, l17, l18, l19, l20, l21, l22, l23, l24, l25, l26, l27, l28, .val (.int v), l30, l31, l32] st H Q := by rcases h with rfl | ⟨z, rfl⟩ <;> first | exact m37_626u | exact m37_626i
theorem m37_628 : M37 628 [l0, l1, l2, l3, l4, l5, l6, l7, l8, l9, l10, l11, l12, l13, l14, l15, l16, l17, l18, l19, l20, l21, l22, l23, l24, l25, l26, l27, l28, .val (.int v), l30, l31, l32] st H Q = M37 630 [l0, l1, l2, l3, l4, l5, l6, l7, l8, l9, l10, l11, l12, l13, l14, l15, l16, l17, l18, l19, l20, l21, l22, l23, l24, l25, l26, l27, l28, .val (.int v), l30, l31, l32] (.int v :: st) H Q := w_x at_628 rfl
theorem m37_630 : M37 630 ls st H Q = M37 631 ls (.int 4 :: st) H Q := w_con at_630 rfl (by decide)
theorem m37_631 : M37 631 ls (.int y :: .int x :: st) H Q = if x < y then M37 634 ls st H Q else M37 675 ls st H Q := w_icmpN at_631 (i_ge x y) rfl
theorem m37_634 : M37 634 [l0, l1, l2, l3, l4, l5, l6, l7, l8, l9, l10, l11, l12, l13, l14, .val (.long J1), l16, l17, l18, l19, l20, l21, l22, l23, l24, l25, l26, l27, l28, l29, l30, l31, l32] st H Q = M37 636 [l0, l1, l2, l3, l4, l5, l6, l7, l8, l9, l10, l11, l12, l13, l14, .val (.long J1), l16, l17, l18, l19, l20, l21, l22, l23, l24, l25, l26, l27, l28, l29, l30, l31, l32] (.long J1 :: st) H Q := w_x at_634 rfl
theorem m37_636 : M37 636 [l0, l1, l2, l3, l4, l5, l6, l7, l8, l9, l10, l11, l12, l13, l14, l15, l16, l17, l18, l19, l20, l21, l22, l23, l24, l25, l26, l27, l28, .val (.int v), l30, l31, l32] st H Q = M37 638 [l0, l1, l2, l3, l4, l5, l6, l7, l8, l9, l10, l11, l12, l13, l14, l15, l16, l17, l18, l19, l20, l21, l22, l23, l24, l25, l26, l27, l28, .val (.int v), l30, l31, l32] (.int v :: st) H Q := w_x at_636 rfl
theorem m37_638 : M37 638 ls (.int y :: .long J1 :: st) H Q = M37 639 ls (.long (XT.ushrL J1 y) :: st) H Q := w_x at_638 rfl
theorem m37_639 : M37 639 ls st H Q = M37 640 ls (.long 1 :: st) H Q := w_con at_639 rfl (by decide)
theorem m37_640 : M37 640 ls (.long J2 :: .long J1 :: st) H Q = M37 641 ls (.long (J1 &&& J2) :: st) H Q := w_x at_640 rfl
theorem m37_641 : M37 641 ls st H Q = M37 642 ls (.long 0 :: st) H Q := w_con at_641 rfl (by decide)
theorem m37_642 : M37 642 ls (.long J2 :: .long J1 :: st) H Q = M37 643 ls (.int (XT.cmpL J1 J2) :: st) H Q := w_x at_642 rfl
theorem m37_643 : M37 643 ls (.int x :: st) H Q = if x = 0 then M37 669 ls st H Q else M37 646 ls st H Q := w_if at_643 (z_eq x) rfl
theorem m37_646 : M37 646 [l0, l1, l2, l3, l4, l5, l6, l7, l8, l9, l10, l11, l12, l13, l14, l15, l16, l17, l18, .val (.long J1), l20, l21, l22, l23, l24, l25, l26, l27, l28, l29, l30, l31, l32] st H Q = M37 648 [l0, l1, l2, l3, l4, l5, l6, l7, l8, l9, l10, l11, l12, l13, l14, l15, l16, l17, l18, .val (.long J1), l20, l21, l22, l23, l24, l25, l26, l27, l28, l29, l30, l31, l32] (.long J1 :: st) H Q := w_x at_646 rfl
theorem m37_648 : M37 648 [l0, l1, l2, l3, l4, l5, l6, l7, l8, l9, l10, l11, l12, l13, l14, l15, l16, l17, l18, l19, l20, l21, l22, l23, l24, l25, l26, l27, l28, .val (.int v), l30, l31, l32] st H Q = M37 650 [l0, l1, l2, l3, l4, l5, l6, l7, l8, l9, l10, l11, l12, l13, l14, l15, l16, l17, l18, l19, l20, l21, l22, l23, l24, l25, l26, l27, l28, .val (.int v), l30, l31, l32] (.int v :: st) H Q := w_x at_648 rfl
theorem cr37_33 : sR tables_1 dn y37 33 = some (y34, method_4_code, 3, (some .int), 2, 56) := sR_of (cR_of (by decide +kernel) rc_34 dn_34 dn_37 (sig := ⟨[.long, .int], some .int⟩) (by decide +kernel) (by decide +kernel) rfl rfl) (by decide +kernel)
theorem m37_650 (a0 : Int64) (a1 : Int32) : M37 650 ls [.int a1, .long a0] H Q = M34 0 [.val (.long a0), .second, .val (.int a1)] [] H (fun v H1 => M37 653 ls (v.toList ++ []) H1 Q) := w_stat (as := [.int a1, .long a0]) (rest := []) at_650 cr37_33 rfl (Nat.le_of_ble_eq_true rfl) (by show 3 ≤ 3; omega) rfl
theorem m37_653 : M37 653 [l0, l1, l2, l3, l4, l5, l6, l7, l8, .val (.int v), l10, l11, l12, l13, l14, l15, l16, l17, l18, l19, l20, l21, l22, l23, l24, l25, l26, l27, l28, l29, l30, l31, l32] st H Q = M37 655 [l0, l1, l2, l3, l4, l5, l6, l7, l8, .val (.int v), l10, l11, l12, l13, l14, l15, l16, l17, l18, l19, l20, l21, l22, l23, l24, l25, l26, l27, l28, l29, l30, l31, l32] (.int v :: st) H Q := w_x at_653 rfl
theorem m37_655 : M37 655 ls (.int y :: .int x :: st) H Q = if x < y then M37 658 ls st H Q else M37 669 ls st H Q := w_icmpN at_655 (i_ge x y) rfl
theorem m37_658 : M37 658 [l0, l1, l2, l3, l4, l5, l6, l7, l8, l9, l10, l11, l12, l13, l14, l15, l16, l17, l18, .val (.long J1), l20, l21, l22, l23, l24, l25, l26, l27, l28, l29, l30, l31, l32] st H Q = M37 660 [l0, l1, l2, l3, l4, l5, l6, l7, l8, l9, l10, l11, l12, l13, l14, l15, l16, l17, l18, .val (.long J1), l20, l21, l22, l23, l24, l25, l26, l27, l28, l29, l30, l31, l32] (.long J1 :: st) H Q := w_x at_658 rfl
theorem m37_660 : M37 660 [l0, l1, l2, l3, l4, l5, l6, l7, l8, l9, l10, l11, l12, l13, l14, l15, l16, l17, l18, l19, l20, l21, l22, l23, l24, l25, l26, l27, l28, .val (.int v), l30, l31, l32] st H Q = M37 662 [l0, l1, l2, l3, l4, l5, l6, l7, l8, l9, l10, l11, l12, l13, l14, l15, l16, l17, l18, l19, l20, l21, l22, l23, l24, l25, l26, l27, l28, .val (.int v), l30, l31, l32] (.int v :: st) H Q := w_x at_660 rfl
theorem m37_662 : M37 662 [l0, l1, l2, l3, l4, l5, l6, l7, l8, .val (.int v), l10, l11, l12, l13, l14, l15, l16, l17, l18, l19, l20, l21, l22, l23, l24, l25, l26, l27, l28, l29, l30, l31, l32] st H Q = M37 664 [l0, l1, l2, l3, l4, l5, l6, l7, l8, .val (.int v), l10, l11, l12, l13, l14, l15, l16, l17, l18, l19, l20, l21, l22, l23, l24, l25, l26, l27, l28, l29, l30, l31, l32] (.int v :: st) H Q := w_x at_662 rfl
theorem cr37_37 : sR tables_1 dn y37 37 = some (y36, method_5_code, 4, (some .long), 3, 55) := sR_of (cR_of (by decide +kernel) rc_36 dn_36 dn_37 (sig := ⟨[.long, .int, .int], some .long⟩) (by decide +kernel) (by decide +kernel) rfl rfl) (by decide +kernel)
theorem m37_664 (a0 : Int64) (a1 : Int32) (a2 : Int32) : M37 664 ls [.int a2, .int a1, .long a0] H Q = M36 0 [.val (.long a0), .second, .val (.int a1), .val (.int a2)] [] H (fun v H1 => M37 667 ls (v.toList ++ []) H1 Q) := w_stat (as := [.int a2, .int a1, .long a0]) (rest := []) at_664 cr37_37 rfl (Nat.le_of_ble_eq_true rfl) (by show 4 ≤ 4; omega) rfl
theorem m37_667 : M37 667 [l0, l1, l2, l3, l4, l5, l6, l7, l8, l9, l10, l11, l12, l13, l14, l15, l16, l17, l18, .val (.long J2), .second, l21, l22, l23, l24, l25, l26, l27, l28, l29, l30, l31, l32] (.long J1 :: st) H Q = M37 669 [l0, l1, l2, l3, l4, l5, l6, l7, l8, l9, l10, l11, l12, l13, l14, l15, l16, l17, l18, .val (.long J1), .second, l21, l22, l23, l24, l25, l26, l27, l28, l29, l30, l31, l32] st H Q := w_x at_667 rfl
theorem m37_669 : M37 669 [l0, l1, l2, l3, l4, l5, l6, l7, l8, l9, l10, l11, l12, l13, l14, l15, l16, l17, l18, l19, l20, l21, l22, l23, l24, l25, l26, l27, l28, .val (.int v), l30, l31, l32] st H Q = M37 672 [l0, l1, l2, l3, l4, l5, l6, l7, l8, l9, l10, l11, l12, l13, l14, l15, l16, l17, l18, l19, l20, l21, l22, l23, l24, l25, l26, l27, l28, .val (.int (v + 1)), l30, l31, l32] st H Q := w_iinc at_669 rfl (by decide) rfl
theorem m37_672 : M37 672 ls st H Q = M37 628 ls st H Q := w_x at_672 rfl
theorem m37_675 : M37 675 ls st H Q = M37 743 ls st H Q := w_x at_675 rfl
theorem m37_678 : M37 678 [l0, l1, l2, l3, l4, l5, l6, l7, l8, l9, l10, l11, l12, l13, l14, l15, l16, l17, l18, l19, l20, l21, l22, .val (.int v), l24, l25, l26, l27, l28, l29, l30, l31, l32] st H Q = M37 680 [l0, l1, l2, l3, l4, l5, l6, l7, l8, l9, l10, l11, l12, l13, l14, l15, l16, l17, l18, l19, l20, l21, l22, .val (.int v), l24, l25, l26, l27, l28, l29, l30, l31, l32] (.int v :: st) H Q := w_x at_678 rfl
theorem m37_680 : M37 680 ls st H Q = M37 682 ls (.int 127 :: st) H Q := w_con at_680 rfl (by decide)
theorem m37_682 : M37 682 ls (.int y :: .int x :: st) H Q = M37 683 ls (.int (x &&& y) :: st) H Q := w_x at_682 rfl
theorem m37_683 : M37 683 ls st H Q = M37 685 ls (.int 8 :: st) H Q := w_con at_683 rfl (by decide)
theorem m37_685 : M37 685 ls (.int y :: .int x :: st) H Q = M37 686 ls (.int (x - y) :: st) H Q := w_x at_685 rfl
theorem m37_686u : M37 686 [l0, l1, l2, l3, l4, l5, l6, l7, l8, l9, l10, l11, l12, l13, l14, l15, l16, l17, l18, l19, l20, l21, l22, l23, l24, l25, l26, .unset, l28, l29, l30, l31, l32] ((.int v) :: st) H Q = M37 688 [l0, l1, l2, l3, l4, l5, l6, l7, l8, l9, l10, l11, l12, l13, l14, l15, l16, l17, l18, l19, l20, l21, l22, l23, l24, l25, l26, .val (.int v), l28, l29, l30, l31, l32] st H Q := w_st (i := 27) (p := isI) at_686 rfl rfl rfl rfl rfl rfl
theorem m37_686i : M37 686 [l0, l1, l2, l3, l4, l5, l6, l7, l8, l9, l10, l11, l12, l13, l14, l15, l16, l17, l18, l19, l20, l21, l22, l23, l24, l25, l26, .val (.int z), l28, l29, l30, l31, l32] ((.int v) :: st) H Q = M37 688 [l0, l1, l2, l3, l4, l5, l6, l7, l8, l9, l10, l11, l12, l13, l14, l15, l16, l17, l18, l19, l20, l21, l22, l23, l24, l25, l26, .val (.int v), l28, l29, l30, l31, l32] st H Q := w_st (i := 27) (p := isI) at_686 rfl rfl rfl rfl rfl rfl
theorem m37_686r : M37 686 [l0, l1, l2, l3, l4, l5, l6, l7, l8, l9, l10, l11, l12, l13, l14, l15, l16, l17, l18, l19, l20, l21, l22, l23, l24, l25, l26, .val (.ref q), l28, l29, l30, l31, l32] ((.int v) :: st) H Q = M37 688 [l0, l1, l2, l3, l4, l5, l6, l7, l8, l9, l10, l11, l12, l13, l14, l15, l16, l17, l18, l19, l20, l21, l22, l23, l24, l25, l26, .val (.int v), l28, l29, l30, l31, l32] st H Q := w_st (i := 27) (p := isI) at_686 rfl rfl rfl rfl rfl rfl
theorem m37_686g (h : okS l27) : M37 686 [l0, l1, l2, l3, l4, l5, l6, l7, l8, l9, l10, l11, l12, l13, l14, l15, l16, l17, l18, l19, l20, l21, l22, l23, l24, l25, l26, l27, l28, l29, l30, l31, l32] ((.int v) :: st) H Q = M37 688 [l0, l1, l2, l3, l4, l5, l6, l7, l8, l9, l10, l11, l12, l13, l14, l15, l16, l17, l18, l19, l20, l21, l22, l23, l24, l25, l26, .val (.int v), l28, l29, l30, l31, l32] st H Q := by rcases h with rfl | ⟨z, rfl⟩ <;> first | exact m37_686u | exact m37_686i
theorem m37_688 : M37 688 [l0, l1, l2, l3, l4, l5, l6, l7, l8, l9, l10, l11, l12, l13, l14, l15, l16, l17, l18, l19, l20, l21, l22, l23, l24, l25, l26, .val (.int v), l28, l29, l30, l31, l32] st H Q = M37 690 [l0, l1, l2, l3, l4, l5, l6, l7, l8, l9, l10, l11, l12, l13, l14, l15, l16, l17, l18, l19, l20, l21, l22, l23, l24, l25, l26, .val (.int v), l28, l29, l30, l31, l32] (.int v :: st) H Q := w_x at_688 rfl
theorem m37_690 : M37 690 ls (.int x :: st) H Q = if x < 0 then M37 693 ls st H Q else M37 697 ls st H Q := w_ifN at_690 (z_ge x) rfl
theorem m37_693 : M37 693 ls st H Q = M37 694 ls (.int 0 :: st) H Q := w_con at_693 rfl (by decide)
theorem m37_694 : M37 694 ls st H Q = M37 699 ls st H Q := w_x at_694 rfl
theorem m37_697 : M37 697 [l0, l1, l2, l3, l4, l5, l6, l7, l8, l9, l10, l11, l12, l13, l14, l15, l16, l17, l18, l19, l20, l21, l22, l23, l24, l25, l26, .val (.int v), l28, l29, l30, l31, l32] st H Q = M37 699 [l0, l1, l2, l3, l4, l5, l6, l7, l8, l9, l10, l11, l12, l13, l14, l15, l16, l17, l18, l19, l20, l21, l22, l23, l24, l25, l26, .val (.int v), l28, l29, l30, l31, l32] (.int v :: st) H Q := w_x at_697 rfl
theorem m37_699u : M37 699 [l0, l1, l2, l3, l4, l5, l6, l7, l8, l9, l10, l11, l12, l13, l14, l15, l16, l17, l18, l19, l20, l21, l22, l23, l24, l25, l26, l27, .unset, l29, l30, l31, l32] ((.int v) :: st) H Q = M37 701 [l0, l1, l2, l3, l4, l5, l6, l7, l8, l9, l10, l11, l12, l13, l14, l15, l16, l17, l18, l19, l20, l21, l22, l23, l24, l25, l26, l27, .val (.int v), l29, l30, l31, l32] st H Q := w_st (i := 28) (p := isI) at_699 rfl rfl rfl rfl rfl rfl
theorem m37_699i : M37 699 [l0, l1, l2, l3, l4, l5, l6, l7, l8, l9, l10, l11, l12, l13, l14, l15, l16, l17, l18, l19, l20, l21, l22, l23, l24, l25, l26, l27, .val (.int z), l29, l30, l31, l32] ((.int v) :: st) H Q = M37 701 [l0, l1, l2, l3, l4, l5, l6, l7, l8, l9, l10, l11, l12, l13, l14, l15, l16, l17, l18, l19, l20, l21, l22, l23, l24, l25, l26, l27, .val (.int v), l29, l30, l31, l32] st H Q := w_st (i := 28) (p := isI) at_699 rfl rfl rfl rfl rfl rfl
theorem m37_699r : M37 699 [l0, l1, l2, l3, l4, l5, l6, l7, l8, l9, l10, l11, l12, l13, l14, l15, l16, l17, l18, l19, l20, l21, l22, l23, l24, l25, l26, l27, .val (.ref q), l29, l30, l31, l32] ((.int v) :: st) H Q = M37 701 [l0, l1, l2, l3, l4, l5, l6, l7, l8, l9, l10, l11, l12, l13, l14, l15, l16, l17, l18, l19, l20, l21, l22, l23, l24, l25, l26, l27, .val (.int v), l29, l30, l31, l32] st H Q := w_st (i := 28) (p := isI) at_699 rfl rfl rfl rfl rfl rfl
theorem m37_699g (h : okS l28) : M37 699 [l0, l1, l2, l3, l4, l5, l6, l7, l8, l9, l10, l11, l12, l13, l14, l15, l16, l17, l18, l19, l20, l21, l22, l23, l24, l25, l26, l27, l28, l29, l30, l31, l32] ((.int v) :: st) H Q = M37 701 [l0, l1, l2, l3, l4, l5, l6, l7, l8, l9, l10, l11, l12, l13, l14, l15, l16, l17, l18, l19, l20, l21, l22, l23, l24, l25, l26, l27, .val (.int v), l29, l30, l31, l32] st H Q := by rcases h with rfl | ⟨z, rfl⟩ <;> first | exact m37_699u | exact m37_699i
theorem m37_701 : M37 701 [l0, l1, l2, l3, l4, l5, l6, l7, l8, l9, l10, l11, l12, l13, l14, l15, l16, l17, l18, l19, l20, l21, l22, l23, l24, l25, l26, l27, .val (.int v), l29, l30, l31, l32] st H Q = M37 703 [l0, l1, l2, l3, l4, l5, l6, l7, l8, l9, l10, l11, l12, l13, l14, l15, l16, l17, l18, l19, l20, l21, l22, l23, l24, l25, l26, l27, .val (.int v), l29, l30, l31, l32] (.int v :: st) H Q := w_x at_701 rfl
theorem m37_703 : M37 703 [l0, l1, l2, l3, l4, .val (.int v), l6, l7, l8, l9, l10, l11, l12, l13, l14, l15, l16, l17, l18, l19, l20, l21, l22, l23, l24, l25, l26, l27, l28, l29, l30, l31, l32] st H Q = M37 705 [l0, l1, l2, l3, l4, .val (.int v), l6, l7, l8, l9, l10, l11, l12, l13, l14, l15, l16, l17, l18, l19, l20, l21, l22, l23, l24, l25, l26, l27, l28, l29, l30, l31, l32] (.int v :: st) H Q := w_x at_703 rfl
theorem m37_705 : M37 705 [l0, l1, l2, l3, l4, l5, .val (.int v), l7, l8, l9, l10, l11, l12, l13, l14, l15, l16, l17, l18, l19, l20, l21, l22, l23, l24, l25, l26, l27, l28, l29, l30, l31, l32] st H Q = M37 707 [l0, l1, l2, l3, l4, l5, .val (.int v), l7, l8, l9, l10, l11, l12, l13, l14, l15, l16, l17, l18, l19, l20, l21, l22, l23, l24, l25, l26, l27, l28, l29, l30, l31, l32] (.int v :: st) H Q := w_x at_705 rfl
theorem m37_707 : M37 707 ls (.int y :: .int x :: st) H Q = M37 708 ls (.int (x - y) :: st) H Q := w_x at_707 rfl
theorem m37_708 : M37 708 ls (.int y :: .int x :: st) H Q = if x < y then M37 711 ls st H Q else M37 716 ls st H Q := w_icmpN at_708 (i_ge x y) rfl
theorem m37_711 : M37 711 [l0, l1, l2, l3, l4, l5, l6, l7, l8, l9, l10, l11, l12, l13, l14, l15, l16, l17, l18, l19, l20, l21, l22, l23, l24, l25, l26, l27, .val (.int v), l29, l30, l31, l32] st H Q = M37 713 [l0, l1, l2, l3, l4, l5, l6, l7, l8, l9, l10, l11, l12, l13, l14, l15, l16, l17, l18, l19, l20, l21, l22, l23, l24, l25, l26, l27, .val (.int v), l29, l30, l31, l32] (.int v :: st) H Q := w_x at_711 rfl
theorem m37_713 : M37 713 ls st H Q = M37 721 ls st H Q := w_x at_713 rfl
theorem m37_716 : M37 716 [l0, l1, l2, l3, l4, .val (.int v), l6, l7, l8, l9, l10, l11, l12, l13, l14, l15, l16, l17, l18, l19, l20, l21, l22, l23, l24, l25, l26, l27, l28, l29, l30, l31, l32] st H Q = M37 718 [l0, l1, l2, l3, l4, .val (.int v), l6, l7, l8, l9, l10, l11, l12, l13, l14, l15, l16, l17, l18, l19, l20, l21, l22, l23, l24, l25, l26, l27, l28, l29, l30, l31, l32] (.int v :: st) H Q := w_x at_716 rfl
theorem m37_718 : M37 718 [l0, l1, l2, l3, l4, l5, .val (.int v), l7, l8, l9, l10, l11, l12, l13, l14, l15, l16, l17, l18, l19, l20, l21, l22, l23, l24, l25, l26, l27, l28, l29, l30, l31, l32] st H Q = M37 720 [l0, l1, l2, l3, l4, l5, .val (.int v), l7, l8, l9, l10, l11, l12, l13, l14, l15, l16, l17, l18, l19, l20, l21, l22, l23, l24, l25, l26, l27, l28, l29, l30, l31, l32] (.int v :: st) H Q := w_x at_718 rfl
theorem m37_720 : M37 720 ls (.int y :: .int x :: st) H Q = M37 721 ls (.int (x - y) :: st) H Q := w_x at_720 rfl
theorem m37_721u : M37 721 [l0, l1, l2, l3, l4, l5, l6, l7, l8, l9, l10, l11, l12, l13, l14, l15, l16, l17, l18, l19, l20, l21, l22, l23, l24, l25, l26, l27, l28, .unset, l30, l31, l32] ((.int v) :: st) H Q = M37 723 [l0, l1, l2, l3, l4, l5, l6, l7, l8, l9, l10, l11, l12, l13, l14, l15, l16, l17, l18, l19, l20, l21, l22, l23, l24, l25, l26, l27, l28, .val (.int v), l30, l31, l32] st H Q := w_st (i := 29) (p := isI) at_721 rfl rfl rfl rfl rfl rfl
theorem m37_721i : M37 721 [l0, l1, l2, l3, l4, l5, l6, l7, l8, l9, l10, l11, l12, l13, l14, l15, l16, l17, l18, l19, l20, l21, l22, l23, l24, l25, l26, l27, l28, .val (.int z), l30, l31, l32] ((.int v) :: st) H Q = M37 723 [l0, l1, l2, l3, l4, l5, l6, l7, l8, l9, l10, l11, l12, l13, l14, l15, l16, l17, l18, l19, l20, l21, l22, l23, l24, l25, l26, l27, l28, .val (.int v), l30, l31, l32] st H Q := w_st (i := 29) (p := isI) at_721 rfl rfl rfl rfl rfl rfl
theorem m37_721r : M37 721 [l0, l1, l2, l3, l4, l5, l6, l7, l8, l9, l10, l11, l12, l13, l14, l15, l16, l17, l18, l19, l20, l21, l22, l23, l24, l25, l26, l27, l28, .val (.ref q), l30, l31, l32] ((.int v) :: st) H Q = M37 723 [l0, l1, l2, l3, l4, l5, l6, l7, l8, l9, l10, l11, l12, l13, l14, l15, l16, l17, l18, l19, l20, l21, l22, l23, l24, l25, l26, l27, l28, .val (.int v), l30, l31, l32] st H Q := w_st (i := 29) (p := isI) at_721 rfl rfl rfl rfl rfl rfl
theorem m37_721g (h : okS l29) : M37 721 [l0, l1, l2, l3, l4, l5, l6, l7, l8, l9, l10, l11, l12, l13, l14, l15, l16, l17, l18, l19, l20, l21, l22, l23, l24, l25, l26, l27, l28, l29, l30, l31, l32] ((.int v) :: st) H Q = M37 723 [l0, l1, l2, l3, l4, l5, l6, l7, l8, l9, l10, l11, l12, l13, l14, l15, l16, l17, l18, l19, l20, l21, l22, l23, l24, l25, l26, l27, l28, .val (.int v), l30, l31, l32] st H Q := by rcases h with rfl | ⟨z, rfl⟩ <;> first | exact m37_721u | exact m37_721i
theorem m37_723 : M37 723 [l0, l1, .val (.ref r), l3, l4, l5, l6, l7, l8, l9, l10, l11, l12, l13, l14, l15, l16, l17, l18, l19, l20, l21, l22, l23, l24, l25, l26, l27, l28, l29, l30, l31, l32] st H Q = M37 724 [l0, l1, .val (.ref r), l3, l4, l5, l6, l7, l8, l9, l10, l11, l12, l13, l14, l15, l16, l17, l18, l19, l20, l21, l22, l23, l24, l25, l26, l27, l28, l29, l30, l31, l32] (.ref r :: st) H Q := w_x at_723 rfl
theorem m37_724 : M37 724 [l0, l1, l2, l3, l4, l5, l6, l7, l8, l9, l10, l11, l12, l13, l14, l15, l16, l17, l18, l19, l20, l21, l22, l23, l24, l25, l26, .val (.int v), l28, l29, l30, l31, l32] st H Q = M37 726 [l0, l1, l2, l3, l4, l5, l6, l7, l8, l9, l10, l11, l12, l13, l14, l15, l16, l17, l18, l19, l20, l21, l22, l23, l24, l25, l26, .val (.int v), l28, l29, l30, l31, l32] (.int v :: st) H Q := w_x at_724 rfl
theorem cr37_41 : vR tables_1 dn y37 41 = some (false, y25, prog_1_method_24_code, 4, (some .int), 1, 10) := vR_of (cR_of (by decide +kernel) rc_25 dn_25 dn_37 (sig := ⟨[.int], some .int⟩) (by decide +kernel) (by decide +kernel) rfl rfl) (by decide +kernel) (by decide +kernel) (by decide +kernel)
theorem m37_726 (a0 : Int32) : M37 726 ls [.int a0, .ref (b + 1)] (put (b + 1) pre s A post) Q = M25 0 [.val (.ref (b + 1)), .val (.int a0), .unset, .unset] [] (put (b + 1) pre s A post) (fun v H1 => M37 729 ls (v.toList ++ []) H1 Q) := w_virt (as := [.int a0]) (rest := []) (a := (b + 1)) at_726 cr37_41 put_o rfl rfl (Nat.le_of_ble_eq_true rfl) (by show 2 ≤ 4; omega) rfl
theorem m37_729 : M37 729 [l0, l1, l2, l3, l4, l5, l6, l7, l8, l9, l10, l11, l12, l13, l14, l15, l16, l17, l18, l19, l20, l21, l22, l23, l24, l25, l26, l27, l28, .val (.int v), l30, l31, l32] st H Q = M37 731 [l0, l1, l2, l3, l4, l5, l6, l7, l8, l9, l10, l11, l12, l13, l14, l15, l16, l17, l18, l19, l20, l21, l22, l23, l24, l25, l26, l27, l28, .val (.int v), l30, l31, l32] (.int v :: st) H Q := w_x at_729 rfl
theorem m37_731 : M37 731 ls (.int y :: .int x :: st) H Q = if x = y then M37 736 ls st H Q else M37 734 ls st H Q := w_icmp at_731 (i_eq x y) rfl
theorem m37_734 : M37 734 ls st H Q = M37 735 ls (.int 0 :: st) H Q := w_con at_734 rfl (by decide)
theorem m37_735 : M37 735 ls (.int z :: st) H Q = Q (some (.int (nar .boolean z))) H := w_iretN at_735 rfl (by simp)
theorem m37_736 : M37 736 [l0, l1, l2, l3, l4, l5, .val (.int v), l7, l8, l9, l10, l11, l12, l13, l14, l15, l16, l17, l18, l19, l20, l21, l22, l23, l24, l25, l26, l27, l28, l29, l30, l31, l32] st H Q = M37 738 [l0, l1, l2, l3, l4, l5, .val (.int v), l7, l8, l9, l10, l11, l12, l13, l14, l15, l16, l17, l18, l19, l20, l21, l22, l23, l24, l25, l26, l27, l28, l29, l30, l31, l32] (.int v :: st) H Q := w_x at_736 rfl
theorem m37_738 : M37 738 [l0, l1, l2, l3, l4, l5, l6, l7, l8, l9, l10, l11, l12, l13, l14, l15, l16, l17, l18, l19, l20, l21, l22, l23, l24, l25, l26, l27, l28, .val (.int v), l30, l31, l32] st H Q = M37 740 [l0, l1, l2, l3, l4, l5, l6, l7, l8, l9, l10, l11, l12, l13, l14, l15, l16, l17, l18, l19, l20, l21, l22, l23, l24, l25, l26, l27, l28, .val (.int v), l30, l31, l32] (.int v :: st) H Q := w_x at_738 rfl
theorem m37_740 : M37 740 ls (.int y :: .int x :: st) H Q = M37 741 ls (.int (x + y) :: st) H Q := w_x at_740 rfl
theorem m37_741i : M37 741 [l0, l1, l2, l3, l4, l5, .val (.int z), l7, l8, l9, l10, l11, l12, l13, l14, l15, l16, l17, l18, l19, l20, l21, l22, l23, l24, l25, l26, l27, l28, l29, l30, l31, l32] ((.int v) :: st) H Q = M37 743 [l0, l1, l2, l3, l4, l5, .val (.int v), l7, l8, l9, l10, l11, l12, l13, l14, l15, l16, l17, l18, l19, l20, l21, l22, l23, l24, l25, l26, l27, l28, l29, l30, l31, l32] st H Q := w_st (i := 6) (p := isI) at_741 rfl rfl rfl rfl rfl rfl
theorem m37_743 : M37 743 [l0, l1, .val (.ref r), l3, l4, l5, l6, l7, l8, l9, l10, l11, l12, l13, l14, l15, l16, l17, l18, l19, l20, l21, l22, l23, l24, l25, l26, l27, l28, l29, l30, l31, l32] st H Q = M37 744 [l0, l1, .val (.ref r), l3, l4, l5, l6, l7, l8, l9, l10, l11, l12, l13, l14, l15, l16, l17, l18, l19, l20, l21, l22, l23, l24, l25, l26, l27, l28, l29, l30, l31, l32] (.ref r :: st) H Q := w_x at_743 rfl
theorem cr37_45 : vR tables_1 dn y37 45 = some (false, y3, prog_1_method_36_code, 1, (some .int), 0, 58) := vR_of (cR_of (by decide +kernel) rc_3 dn_3 dn_37 (sig := ⟨[], some .int⟩) (by decide +kernel) (by decide +kernel) rfl rfl) (by decide +kernel) (by decide +kernel) (by decide +kernel)
theorem m37_744 : M37 744 ls [.ref (b + 1)] (put (b + 1) pre s A post) Q = M3 0 [.val (.ref (b + 1))] [] (put (b + 1) pre s A post) (fun v H1 => M37 747 ls (v.toList ++ []) H1 Q) := w_virt (as := []) (rest := []) (a := (b + 1)) at_744 cr37_45 put_o rfl rfl (Nat.le_of_ble_eq_true rfl) (by show 1 ≤ 1; omega) rfl
theorem m37_747i : M37 747 [l0, l1, l2, l3, l4, l5, l6, l7, l8, l9, l10, l11, l12, l13, l14, l15, l16, l17, l18, l19, l20, l21, l22, l23, l24, l25, l26, .val (.int z), l28, l29, l30, l31, l32] ((.int v) :: st) H Q = M37 749 [l0, l1, l2, l3, l4, l5, l6, l7, l8, l9, l10, l11, l12, l13, l14, l15, l16, l17, l18, l19, l20, l21, l22, l23, l24, l25, l26, .val (.int v), l28, l29, l30, l31, l32] st H Q := w_st (i := 27) (p := isI) at_747 rfl rfl rfl rfl rfl rfl
theorem m37_749 : M37 749 [l0, l1, l2, l3, l4, l5, l6, l7, l8, l9, l10, l11, l12, l13, l14, l15, l16, l17, l18, l19, l20, l21, .val (.int v), l23, l24, l25, l26, l27, l28, l29, l30, l31, l32] st H Q = M37 751 [l0, l1, l2, l3, l4, l5, l6, l7, l8, l9, l10, l11, l12, l13, l14, l15, l16, l17, l18, l19, l20, l21, .val (.int v), l23, l24, l25, l26, l27, l28, l29, l30, l31, l32] (.int v :: st) H Q := w_x at_749 rfl
theorem m37_751 : M37 751 ls st H Q = M37 752 ls (.int 3 :: st) H Q := w_con at_751 rfl (by decide)
theorem m37_752 : M37 752 ls (.int y :: .int x :: st) H Q = if x = y then M37 755 ls st H Q else M37 765 ls st H Q := w_icmpN at_752 (i_ne x y) rfl
theorem m37_755 : M37 755 [l0, l1, l2, l3, l4, l5, l6, l7, l8, l9, l10, l11, l12, l13, l14, l15, l16, l17, l18, l19, l20, l21, l22, l23, l24, l25, l26, .val (.int v), l28, l29, l30, l31, l32] st H Q = M37 757 [l0, l1, l2, l3, l4, l5, l6, l7, l8, l9, l10, l11, l12, l13, l14, l15, l16, l17, l18, l19, l20, l21, l22, l23, l24, l25, l26, .val (.int v), l28, l29, l30, l31, l32] (.int v :: st) H Q := w_x at_755 rfl
theorem m37_757 : M37 757 [l0, l1, l2, l3, l4, l5, l6, l7, l8, l9, l10, .val (.int v), l12, l13, l14, l15, l16, l17, l18, l19, l20, l21, l22, l23, l24, l25, l26, l27, l28, l29, l30, l31, l32] st H Q = M37 759 [l0, l1, l2, l3, l4, l5, l6, l7, l8, l9, l10, .val (.int v), l12, l13, l14, l15, l16, l17, l18, l19, l20, l21, l22, l23, l24, l25, l26, l27, l28, l29, l30, l31, l32] (.int v :: st) H Q := w_x at_757 rfl
theorem m37_759 : M37 759 ls (.int y :: .int x :: st) H Q = if x < y then M37 762 ls st H Q else M37 774 ls st H Q := w_icmpN at_759 (i_ge x y) rfl
theorem m37_762 : M37 762 ls st H Q = M37 772 ls st H Q := w_x at_762 rfl
theorem m37_765 : M37 765 [l0, l1, l2, l3, l4, l5, l6, l7, l8, l9, l10, l11, l12, l13, l14, l15, l16, l17, l18, l19, l20, l21, l22, l23, l24, l25, l26, .val (.int v), l28, l29, l30, l31, l32] st H Q = M37 767 [l0, l1, l2, l3, l4, l5, l6, l7, l8, l9, l10, l11, l12, l13, l14, l15, l16, l17, l18, l19, l20, l21, l22, l23, l24, l25, l26, .val (.int v), l28, l29, l30, l31, l32] (.int v :: st) H Q := w_x at_765 rfl
theorem m37_767 : M37 767 [l0, l1, l2, l3, l4, l5, l6, l7, l8, l9, l10, .val (.int v), l12, l13, l14, l15, l16, l17, l18, l19, l20, l21, l22, l23, l24, l25, l26, l27, l28, l29, l30, l31, l32] st H Q = M37 769 [l0, l1, l2, l3, l4, l5, l6, l7, l8, l9, l10, .val (.int v), l12, l13, l14, l15, l16, l17, l18, l19, l20, l21, l22, l23, l24, l25, l26, l27, l28, l29, l30, l31, l32] (.int v :: st) H Q := w_x at_767 rfl
theorem m37_769 : M37 769 ls (.int y :: .int x :: st) H Q = if x = y then M37 774 ls st H Q else M37 772 ls st H Q := w_icmp at_769 (i_eq x y) rfl
theorem m37_772 : M37 772 ls st H Q = M37 773 ls (.int 0 :: st) H Q := w_con at_772 rfl (by decide)
theorem m37_773 : M37 773 ls (.int z :: st) H Q = Q (some (.int (nar .boolean z))) H := w_iretN at_773 rfl (by simp)
theorem m37_774 : M37 774 [l0, l1, l2, l3, l4, l5, l6, l7, l8, l9, l10, l11, l12, l13, l14, l15, l16, l17, l18, l19, l20, l21, l22, l23, l24, l25, l26, .val (.int v), l28, l29, l30, l31, l32] st H Q = M37 776 [l0, l1, l2, l3, l4, l5, l6, l7, l8, l9, l10, l11, l12, l13, l14, l15, l16, l17, l18, l19, l20, l21, l22, l23, l24, l25, l26, .val (.int v), l28, l29, l30, l31, l32] (.int v :: st) H Q := w_x at_774 rfl
theorem m37_776i : M37 776 [l0, l1, l2, l3, l4, l5, l6, l7, l8, l9, l10, .val (.int z), l12, l13, l14, l15, l16, l17, l18, l19, l20, l21, l22, l23, l24, l25, l26, l27, l28, l29, l30, l31, l32] ((.int v) :: st) H Q = M37 778 [l0, l1, l2, l3, l4, l5, l6, l7, l8, l9, l10, .val (.int v), l12, l13, l14, l15, l16, l17, l18, l19, l20, l21, l22, l23, l24, l25, l26, l27, l28, l29, l30, l31, l32] st H Q := w_st (i := 11) (p := isI) at_776 rfl rfl rfl rfl rfl rfl
theorem m37_778 : M37 778 [l0, l1, .val (.ref r), l3, l4, l5, l6, l7, l8, l9, l10, l11, l12, l13, l14, l15, l16, l17, l18, l19, l20, l21, l22, l23, l24, l25, l26, l27, l28, l29, l30, l31, l32] st H Q = M37 779 [l0, l1, .val (.ref r), l3, l4, l5, l6, l7, l8, l9, l10, l11, l12, l13, l14, l15, l16, l17, l18, l19, l20, l21, l22, l23, l24, l25, l26, l27, l28, l29, l30, l31, l32] (.ref r :: st) H Q := w_x at_778 rfl
theorem cr37_48 : vR tables_1 dn y37 48 = some (false, y4, prog_1_method_17_code, 1, (some .int), 0, 58) := vR_of (cR_of (by decide +kernel) rc_4 dn_4 dn_37 (sig := ⟨[], some .int⟩) (by decide +kernel) (by decide +kernel) rfl rfl) (by decide +kernel) (by decide +kernel) (by decide +kernel)
theorem m37_779 : M37 779 ls [.ref (b + 1)] (put (b + 1) pre s A post) Q = M4 0 [.val (.ref (b + 1))] [] (put (b + 1) pre s A post) (fun v H1 => M37 782 ls (v.toList ++ []) H1 Q) := w_virt (as := []) (rest := []) (a := (b + 1)) at_779 cr37_48 put_o rfl rfl (Nat.le_of_ble_eq_true rfl) (by show 1 ≤ 1; omega) rfl
theorem m37_782 : M37 782 [l0, l1, l2, l3, .val (.int v), l5, l6, l7, l8, l9, l10, l11, l12, l13, l14, l15, l16, l17, l18, l19, l20, l21, l22, l23, l24, l25, l26, l27, l28, l29, l30, l31, l32] st H Q = M37 784 [l0, l1, l2, l3, .val (.int v), l5, l6, l7, l8, l9, l10, l11, l12, l13, l14, l15, l16, l17, l18, l19, l20, l21, l22, l23, l24, l25, l26, l27, l28, l29, l30, l31, l32] (.int v :: st) H Q := w_x at_782 rfl
theorem m37_784 : M37 784 ls (.int y :: .int x :: st) H Q = if x = y then M37 787 ls st H Q else M37 814 ls st H Q := w_icmpN at_784 (i_ne x y) rfl
theorem m37_787 : M37 787 [l0, l1, .val (.ref r), l3, l4, l5, l6, l7, l8, l9, l10, l11, l12, l13, l14, l15, l16, l17, l18, l19, l20, l21, l22, l23, l24, l25, l26, l27, l28, l29, l30, l31, l32] st H Q = M37 788 [l0, l1, .val (.ref r), l3, l4, l5, l6, l7, l8, l9, l10, l11, l12, l13, l14, l15, l16, l17, l18, l19, l20, l21, l22, l23, l24, l25, l26, l27, l28, l29, l30, l31, l32] (.ref r :: st) H Q := w_x at_787 rfl
theorem cr37_51 : vR tables_1 dn y37 51 = some (false, y5, prog_1_method_21_code, 1, (some .int), 0, 58) := vR_of (cR_of (by decide +kernel) rc_5 dn_5 dn_37 (sig := ⟨[], some .int⟩) (by decide +kernel) (by decide +kernel) rfl rfl) (by decide +kernel) (by decide +kernel) (by decide +kernel)
theorem m37_788 : M37 788 ls [.ref (b + 1)] (put (b + 1) pre s A post) Q = M5 0 [.val (.ref (b + 1))] [] (put (b + 1) pre s A post) (fun v H1 => M37 791 ls (v.toList ++ []) H1 Q) := w_virt (as := []) (rest := []) (a := (b + 1)) at_788 cr37_51 put_o rfl rfl (Nat.le_of_ble_eq_true rfl) (by show 1 ≤ 1; omega) rfl
theorem m37_791 : M37 791 [l0, l1, l2, l3, l4, .val (.int v), l6, l7, l8, l9, l10, l11, l12, l13, l14, l15, l16, l17, l18, l19, l20, l21, l22, l23, l24, l25, l26, l27, l28, l29, l30, l31, l32] st H Q = M37 793 [l0, l1, l2, l3, l4, .val (.int v), l6, l7, l8, l9, l10, l11, l12, l13, l14, l15, l16, l17, l18, l19, l20, l21, l22, l23, l24, l25, l26, l27, l28, l29, l30, l31, l32] (.int v :: st) H Q := w_x at_791 rfl
theorem m37_793 : M37 793 ls (.int y :: .int x :: st) H Q = if x = y then M37 796 ls st H Q else M37 814 ls st H Q := w_icmpN at_793 (i_ne x y) rfl
theorem m37_796 : M37 796 [l0, l1, .val (.ref r), l3, l4, l5, l6, l7, l8, l9, l10, l11, l12, l13, l14, l15, l16, l17, l18, l19, l20, l21, l22, l23, l24, l25, l26, l27, l28, l29, l30, l31, l32] st H Q = M37 797 [l0, l1, .val (.ref r), l3, l4, l5, l6, l7, l8, l9, l10, l11, l12, l13, l14, l15, l16, l17, l18, l19, l20, l21, l22, l23, l24, l25, l26, l27, l28, l29, l30, l31, l32] (.ref r :: st) H Q := w_x at_796 rfl
theorem m37_797 : M37 797 ls [.ref (b + 1)] (put (b + 1) pre s A post) Q = M6 0 [.val (.ref (b + 1))] [] (put (b + 1) pre s A post) (fun v H1 => M37 800 ls (v.toList ++ []) H1 Q) := w_virt (as := []) (rest := []) (a := (b + 1)) at_797 cr37_30 put_o rfl rfl (Nat.le_of_ble_eq_true rfl) (by show 1 ≤ 1; omega) rfl
theorem m37_800 : M37 800 [l0, l1, l2, l3, l4, l5, l6, .val (.int v), l8, l9, l10, l11, l12, l13, l14, l15, l16, l17, l18, l19, l20, l21, l22, l23, l24, l25, l26, l27, l28, l29, l30, l31, l32] st H Q = M37 802 [l0, l1, l2, l3, l4, l5, l6, .val (.int v), l8, l9, l10, l11, l12, l13, l14, l15, l16, l17, l18, l19, l20, l21, l22, l23, l24, l25, l26, l27, l28, l29, l30, l31, l32] (.int v :: st) H Q := w_x at_800 rfl
theorem m37_802 : M37 802 ls (.int y :: .int x :: st) H Q = if x = y then M37 805 ls st H Q else M37 814 ls st H Q := w_icmpN at_802 (i_ne x y) rfl
theorem m37_805 : M37 805 [l0, l1, .val (.ref r), l3, l4, l5, l6, l7, l8, l9, l10, l11, l12, l13, l14, l15, l16, l17, l18, l19, l20, l21, l22, l23, l24, l25, l26, l27, l28, l29, l30, l31, l32] st H Q = M37 806 [l0, l1, .val (.ref r), l3, l4, l5, l6, l7, l8, l9, l10, l11, l12, l13, l14, l15, l16, l17, l18, l19, l20, l21, l22, l23, l24, l25, l26, l27, l28, l29, l30, l31, l32] (.ref r :: st) H Q := w_x at_805 rfl
theorem cr37_54 : vR tables_1 dn y37 54 = some (false, y7, prog_1_method_33_code, 1, (some .int), 0, 58) := vR_of (cR_of (by decide +kernel) rc_7 dn_7 dn_37 (sig := ⟨[], some .int⟩) (by decide +kernel) (by decide +kernel) rfl rfl) (by decide +kernel) (by decide +kernel) (by decide +kernel)
theorem m37_806 : M37 806 ls [.ref (b + 1)] (put (b + 1) pre s A post) Q = M7 0 [.val (.ref (b + 1))] [] (put (b + 1) pre s A post) (fun v H1 => M37 809 ls (v.toList ++ []) H1 Q) := w_virt (as := []) (rest := []) (a := (b + 1)) at_806 cr37_54 put_o rfl rfl (Nat.le_of_ble_eq_true rfl) (by show 1 ≤ 1; omega) rfl
theorem m37_809 : M37 809 [l0, l1, l2, l3, l4, l5, .val (.int v), l7, l8, l9, l10, l11, l12, l13, l14, l15, l16, l17, l18, l19, l20, l21, l22, l23, l24, l25, l26, l27, l28, l29, l30, l31, l32] st H Q = M37 811 [l0, l1, l2, l3, l4, l5, .val (.int v), l7, l8, l9, l10, l11, l12, l13, l14, l15, l16, l17, l18, l19, l20, l21, l22, l23, l24, l25, l26, l27, l28, l29, l30, l31, l32] (.int v :: st) H Q := w_x at_809 rfl
theorem m37_811 : M37 811 ls (.int y :: .int x :: st) H Q = if x = y then M37 816 ls st H Q else M37 814 ls st H Q := w_icmp at_811 (i_eq x y) rfl
theorem m37_814 : M37 814 ls st H Q = M37 815 ls (.int 0 :: st) H Q := w_con at_814 rfl (by decide)
theorem m37_815 : M37 815 ls (.int z :: st) H Q = Q (some (.int (nar .boolean z))) H := w_iretN at_815 rfl (by simp)
theorem m37_816 : M37 816 [l0, l1, .val (.ref r), l3, l4, l5, l6, l7, l8, l9, l10, l11, l12, l13, l14, l15, l16, l17, l18, l19, l20, l21, l22, l23, l24, l25, l26, l27, l28, l29, l30, l31, l32] st H Q = M37 817 [l0, l1, .val (.ref r), l3, l4, l5, l6, l7, l8, l9, l10, l11, l12, l13, l14, l15, l16, l17, l18, l19, l20, l21, l22, l23, l24, l25, l26, l27, l28, l29, l30, l31, l32] (.ref r :: st) H Q := w_x at_816 rfl
theorem m37_817 : M37 817 [l0, l1, l2, l3, .val (.int v), l5, l6, l7, l8, l9, l10, l11, l12, l13, l14, l15, l16, l17, l18, l19, l20, l21, l22, l23, l24, l25, l26, l27, l28, l29, l30, l31, l32] st H Q = M37 819 [l0, l1, l2, l3, .val (.int v), l5, l6, l7, l8, l9, l10, l11, l12, l13, l14, l15, l16, l17, l18, l19, l20, l21, l22, l23, l24, l25, l26, l27, l28, l29, l30, l31, l32] (.int v :: st) H Q := w_x at_817 rfl
theorem cr37_57 : vR tables_1 dn y37 57 = some (false, y8, prog_1_method_18_code, 2, (some .int), 1, 44) := vR_of (cR_of (by decide +kernel) rc_8 dn_8 dn_37 (sig := ⟨[.int], some .int⟩) (by decide +kernel) (by decide +kernel) rfl rfl) (by decide +kernel) (by decide +kernel) (by decide +kernel)
theorem m37_819 (a0 : Int32) : M37 819 ls [.int a0, .ref (b + 1)] (put (b + 1) pre s A post) Q = M8 0 [.val (.ref (b + 1)), .val (.int a0)] [] (put (b + 1) pre s A post) (fun v H1 => M37 822 ls (v.toList ++ []) H1 Q) := w_virt (as := [.int a0]) (rest := []) (a := (b + 1)) at_819 cr37_57 put_o rfl rfl (Nat.le_of_ble_eq_true rfl) (by show 2 ≤ 2; omega) rfl
theorem m37_822 : M37 822 ls st H Q = M37 823 ls (.int (-1) :: st) H Q := w_con at_822 rfl (by decide)
theorem m37_823 : M37 823 ls (.int y :: .int x :: st) H Q = if x = y then M37 826 ls st H Q else M37 845 ls st H Q := w_icmpN at_823 (i_ne x y) rfl
theorem m37_826 : M37 826 [l0, l1, .val (.ref r), l3, l4, l5, l6, l7, l8, l9, l10, l11, l12, l13, l14, l15, l16, l17, l18, l19, l20, l21, l22, l23, l24, l25, l26, l27, l28, l29, l30, l31, l32] st H Q = M37 827 [l0, l1, .val (.ref r), l3, l4, l5, l6, l7, l8, l9, l10, l11, l12, l13, l14, l15, l16, l17, l18, l19, l20, l21, l22, l23, l24, l25, l26, l27, l28, l29, l30, l31, l32] (.ref r :: st) H Q := w_x at_826 rfl
theorem m37_827 : M37 827 [l0, l1, l2, l3, .val (.int v), l5, l6, l7, l8, l9, l10, l11, l12, l13, l14, l15, l16, l17, l18, l19, l20, l21, l22, l23, l24, l25, l26, l27, l28, l29, l30, l31, l32] st H Q = M37 829 [l0, l1, l2, l3, .val (.int v), l5, l6, l7, l8, l9, l10, l11, l12, l13, l14, l15, l16, l17, l18, l19, l20, l21, l22, l23, l24, l25, l26, l27, l28, l29, l30, l31, l32] (.int v :: st) H Q := w_x at_827 rfl
theorem cr37_60 : vR tables_1 dn y37 60 = some (false, y10, prog_1_method_35_code, 2, (some .int), 1, 44) := vR_of (cR_of (by decide +kernel) rc_10 dn_10 dn_37 (sig := ⟨[.int], some .int⟩) (by decide +kernel) (by decide +kernel) rfl rfl) (by decide +kernel) (by decide +kernel) (by decide +kernel)
theorem m37_829 (a0 : Int32) : M37 829 ls [.int a0, .ref (b + 1)] (put (b + 1) pre s A post) Q = M10 0 [.val (.ref (b + 1)), .val (.int a0)] [] (put (b + 1) pre s A post) (fun v H1 => M37 832 ls (v.toList ++ []) H1 Q) := w_virt (as := [.int a0]) (rest := []) (a := (b + 1)) at_829 cr37_60 put_o rfl rfl (Nat.le_of_ble_eq_true rfl) (by show 2 ≤ 2; omega) rfl
theorem m37_832 : M37 832 ls st H Q = M37 833 ls (.int (-1) :: st) H Q := w_con at_832 rfl (by decide)
theorem m37_833 : M37 833 ls (.int y :: .int x :: st) H Q = if x = y then M37 836 ls st H Q else M37 845 ls st H Q := w_icmpN at_833 (i_ne x y) rfl
theorem m37_836 : M37 836 [l0, l1, .val (.ref r), l3, l4, l5, l6, l7, l8, l9, l10, l11, l12, l13, l14, l15, l16, l17, l18, l19, l20, l21, l22, l23, l24, l25, l26, l27, l28, l29, l30, l31, l32] st H Q = M37 837 [l0, l1, .val (.ref r), l3, l4, l5, l6, l7, l8, l9, l10, l11, l12, l13, l14, l15, l16, l17, l18, l19, l20, l21, l22, l23, l24, l25, l26, l27, l28, l29, l30, l31, l32] (.ref r :: st) H Q := w_x at_836 rfl
theorem m37_837 : M37 837 ls st H Q = M37 838 ls (.int 4 :: st) H Q := w_con at_837 rfl (by decide)
theorem cr37_63 : vR tables_1 dn y37 63 = some (false, y11, prog_1_method_20_code, 2, (some .int), 1, 57) := vR_of (cR_of (by decide +kernel) rc_11 dn_11 dn_37 (sig := ⟨[.int], some .int⟩) (by decide +kernel) (by decide +kernel) rfl rfl) (by decide +kernel) (by decide +kernel) (by decide +kernel)
theorem m37_838 (a0 : Int32) : M37 838 ls [.int a0, .ref (b + 1)] (put (b + 1) pre s A post) Q = M11 0 [.val (.ref (b + 1)), .val (.int a0)] [] (put (b + 1) pre s A post) (fun v H1 => M37 841 ls (v.toList ++ []) H1 Q) := w_virt (as := [.int a0]) (rest := []) (a := (b + 1)) at_838 cr37_63 put_o rfl rfl (Nat.le_of_ble_eq_true rfl) (by show 2 ≤ 2; omega) rfl
theorem m37_841 : M37 841 ls st H Q = M37 842 ls (.int (-1) :: st) H Q := w_con at_841 rfl (by decide)
theorem m37_842 : M37 842 ls (.int y :: .int x :: st) H Q = if x = y then M37 847 ls st H Q else M37 845 ls st H Q := w_icmp at_842 (i_eq x y) rfl
theorem m37_845 : M37 845 ls st H Q = M37 846 ls (.int 0 :: st) H Q := w_con at_845 rfl (by decide)
theorem m37_846 : M37 846 ls (.int z :: st) H Q = Q (some (.int (nar .boolean z))) H := w_iretN at_846 rfl (by simp)
theorem m37_847 : M37 847 ls st H Q = M37 848 ls (.int 0 :: st) H Q := w_con at_847 rfl (by decide)
theorem m37_848u : M37 848 [l0, l1, l2, l3, l4, l5, l6, l7, l8, l9, l10, l11, l12, l13, l14, l15, l16, l17, l18, l19, l20, l21, l22, l23, l24, l25, l26, l27, .unset, l29, l30, l31, l32] ((.int v) :: st) H Q = M37 850 [l0, l1, l2, l3, l4, l5, l6, l7, l8, l9, l10, l11, l12, l13, l14, l15, l16, l17, l18, l19, l20, l21, l22, l23, l24, l25, l26, l27, .val (.int v), l29, l30, l31, l32] st H Q := w_st (i := 28) (p := isI) at_848 rfl rfl rfl rfl rfl rfl
theorem m37_848i : M37 848 [l0, l1, l2, l3, l4, l5, l6, l7, l8, l9, l10, l11, l12, l13, l14, l15, l16, l17, l18, l19, l20, l21, l22, l23, l24, l25, l26, l27, .val (.int z), l29, l30, l31, l32] ((.int v) :: st) H Q = M37 850 [l0, l1, l2, l3, l4, l5, l6, l7, l8, l9, l10, l11, l12, l13, l14, l15, l16, l17, l18, l19, l20, l21, l22, l23, l24, l25, l26, l27, .val (.int v), l29, l30, l31, l32] st H Q := w_st (i := 28) (p := isI) at_848 rfl rfl rfl rfl rfl rfl
theorem m37_848r : M37 848 [l0, l1, l2, l3, l4, l5, l6, l7, l8, l9, l10, l11, l12, l13, l14, l15, l16, l17, l18, l19, l20, l21, l22, l23, l24, l25, l26, l27, .val (.ref q), l29, l30, l31, l32] ((.int v) :: st) H Q = M37 850 [l0, l1, l2, l3, l4, l5, l6, l7, l8, l9, l10, l11, l12, l13, l14, l15, l16, l17, l18, l19, l20, l21, l22, l23, l24, l25, l26, l27, .val (.int v), l29, l30, l31, l32] st H Q := w_st (i := 28) (p := isI) at_848 rfl rfl rfl rfl rfl rfl
theorem m37_848g (h : okS l28) : M37 848 [l0, l1, l2, l3, l4, l5, l6, l7, l8, l9, l10, l11, l12, l13, l14, l15, l16, l17, l18, l19, l20, l21, l22, l23, l24, l25, l26, l27, l28, l29, l30, l31, l32] ((.int v) :: st) H Q = M37 850 [l0, l1, l2, l3, l4, l5, l6, l7, l8, l9, l10, l11, l12, l13, l14, l15, l16, l17, l18, l19, l20, l21, l22, l23, l24, l25, l26, l27, .val (.int v), l29, l30, l31, l32] st H Q := by rcases h with rfl | ⟨z, rfl⟩ <;> first | exact m37_848u | exact m37_848i
theorem m37_850 : M37 850 [l0, l1, l2, l3, l4, l5, l6, l7, l8, l9, l10, l11, l12, l13, l14, l15, l16, l17, l18, l19, l20, l21, l22, l23, l24, l25, l26, l27, .val (.int v), l29, l30, l31, l32] st H Q = M37 852 [l0, l1, l2, l3, l4, l5, l6, l7, l8, l9, l10, l11, l12, l13, l14, l15, l16, l17, l18, l19, l20, l21, l22, l23, l24, l25, l26, l27, .val (.int v), l29, l30, l31, l32] (.int v :: st) H Q := w_x at_850 rfl
theorem m37_852 : M37 852 ls st H Q = M37 853 ls (.int 4 :: st) H Q := w_con at_852 rfl (by decide)
theorem m37_853 : M37 853 ls (.int y :: .int x :: st) H Q = if x < y then M37 856 ls st H Q else M37 880 ls st H Q := w_icmpN at_853 (i_ge x y) rfl
theorem m37_856 : M37 856 [l0, l1, .val (.ref r), l3, l4, l5, l6, l7, l8, l9, l10, l11, l12, l13, l14, l15, l16, l17, l18, l19, l20, l21, l22, l23, l24, l25, l26, l27, l28, l29, l30, l31, l32] st H Q = M37 857 [l0, l1, .val (.ref r), l3, l4, l5, l6, l7, l8, l9, l10, l11, l12, l13, l14, l15, l16, l17, l18, l19, l20, l21, l22, l23, l24, l25, l26, l27, l28, l29, l30, l31, l32] (.ref r :: st) H Q := w_x at_856 rfl
theorem m37_857 : M37 857 [l0, l1, l2, l3, l4, l5, l6, l7, l8, l9, l10, l11, l12, l13, l14, l15, l16, l17, l18, l19, l20, l21, l22, l23, l24, l25, l26, l27, .val (.int v), l29, l30, l31, l32] st H Q = M37 859 [l0, l1, l2, l3, l4, l5, l6, l7, l8, l9, l10, l11, l12, l13, l14, l15, l16, l17, l18, l19, l20, l21, l22, l23, l24, l25, l26, l27, .val (.int v), l29, l30, l31, l32] (.int v :: st) H Q := w_x at_857 rfl
theorem m37_859 (a0 : Int32) : M37 859 ls [.int a0, .ref (b + 1)] (put (b + 1) pre s A post) Q = M11 0 [.val (.ref (b + 1)), .val (.int a0)] [] (put (b + 1) pre s A post) (fun v H1 => M37 862 ls (v.toList ++ []) H1 Q) := w_virt (as := [.int a0]) (rest := []) (a := (b + 1)) at_859 cr37_63 put_o rfl rfl (Nat.le_of_ble_eq_true rfl) (by show 2 ≤ 2; omega) rfl
theorem m37_862 : M37 862 [l0, l1, l2, l3, l4, l5, l6, l7, l8, l9, l10, l11, l12, l13, l14, l15, l16, l17, l18, .val (.long J1), l20, l21, l22, l23, l24, l25, l26, l27, l28, l29, l30, l31, l32] st H Q = M37 864 [l0, l1, l2, l3, l4, l5, l6, l7, l8, l9, l10, l11, l12, l13, l14, l15, l16, l17, l18, .val (.long J1), l20, l21, l22, l23, l24, l25, l26, l27, l28, l29, l30, l31, l32] (.long J1 :: st) H Q := w_x at_862 rfl
theorem m37_864 : M37 864 [l0, l1, l2, l3, l4, l5, l6, l7, l8, l9, l10, l11, l12, l13, l14, l15, l16, l17, l18, l19, l20, l21, l22, l23, l24, l25, l26, l27, .val (.int v), l29, l30, l31, l32] st H Q = M37 866 [l0, l1, l2, l3, l4, l5, l6, l7, l8, l9, l10, l11, l12, l13, l14, l15, l16, l17, l18, l19, l20, l21, l22, l23, l24, l25, l26, l27, .val (.int v), l29, l30, l31, l32] (.int v :: st) H Q := w_x at_864 rfl
theorem m37_866 (a0 : Int64) (a1 : Int32) (u0 : Int32) : M37 866 ls [.int a1, .long a0, .int u0] H Q = M34 0 [.val (.long a0), .second, .val (.int a1)] [] H (fun v H1 => M37 869 ls (v.toList ++ [.int u0]) H1 Q) := w_stat (as := [.int a1, .long a0]) (rest := [.int u0]) at_866 cr37_33 rfl (Nat.le_of_ble_eq_true rfl) (by show 3 ≤ 3; omega) rfl
theorem m37_869 : M37 869 ls (.int y :: .int x :: st) H Q = if x = y then M37 874 ls st H Q else M37 872 ls st H Q := w_icmp at_869 (i_eq x y) rfl
theorem m37_872 : M37 872 ls st H Q = M37 873 ls (.int 0 :: st) H Q := w_con at_872 rfl (by decide)
theorem m37_873 : M37 873 ls (.int z :: st) H Q = Q (some (.int (nar .boolean z))) H := w_iretN at_873 rfl (by simp)
theorem m37_874 : M37 874 [l0, l1, l2, l3, l4, l5, l6, l7, l8, l9, l10, l11, l12, l13, l14, l15, l16, l17, l18, l19, l20, l21, l22, l23, l24, l25, l26, l27, .val (.int v), l29, l30, l31, l32] st H Q = M37 877 [l0, l1, l2, l3, l4, l5, l6, l7, l8, l9, l10, l11, l12, l13, l14, l15, l16, l17, l18, l19, l20, l21, l22, l23, l24, l25, l26, l27, .val (.int (v + 1)), l29, l30, l31, l32] st H Q := w_iinc at_874 rfl (by decide) rfl
theorem m37_877 : M37 877 ls st H Q = M37 850 ls st H Q := w_x at_877 rfl
theorem m37_880 : M37 880 [l0, l1, l2, l3, l4, l5, l6, l7, l8, l9, l10, l11, l12, l13, l14, l15, l16, l17, l18, l19, l20, .val (.int v), l22, l23, l24, l25, l26, l27, l28, l29, l30, l31, l32] st H Q = M37 883 [l0, l1, l2, l3, l4, l5, l6, l7, l8, l9, l10, l11, l12, l13, l14, l15, l16, l17, l18, l19, l20, .val (.int (v + 5)), l22, l23, l24, l25, l26, l27, l28, l29, l30, l31, l32] st H Q := w_iinc at_880 rfl (by decide) rfl
theorem m37_883 : M37 883 ls st H Q = M37 86 ls st H Q := w_x at_883 rfl
theorem m37_886 : M37 886 ls st H Q = M37 887 ls (.int 1 :: st) H Q := w_con at_886 rfl (by decide)
theorem m37_887 : M37 887 ls (.int z :: st) H Q = Q (some (.int (nar .boolean z))) H := w_iretN at_887 rfl (by simp)
theorem pf0_7 : pfR tables_1 y0.cls y0.name 7 = some ("ResponseTimeGate", 0, .array .int) := by decide +kernel
theorem m0_4a (hH : H.length = b) (hk : 1 ≤ b) {vs : List Value} {r : AHeap} (hj : 0 < vs.length) : M0 4 (.val (.ref b) :: [l1, l2, l3]) [] (H ++ (.object "ResponseTimeGate", vs) :: r) Q = M0 12 (.val (.ref b) :: [l1, l2, l3]) [] (H ++ (.object "ResponseTimeGate", vs.set 0 (.ref (b + (r.length + 1)))) :: (r ++ [(.array .int, List.replicate 9 (.int 0))])) Q := w_iarr (n := 9) rfl hH hk (show decode kb0 4 = .ok (.aload_n 0, 1) from by decide +kernel) rfl (show decode kb0 5 = .ok (.bipush 9, 2) from by decide +kernel) (fun _ => rfl) (by decide) (show decode kb0 7 = .ok (.newarray .int, 2) from by decide +kernel) rfl (by decide +kernel) (by decide) (by decide) rfl (show decode kb0 9 = .ok (.putfield 7, 3) from by decide +kernel) pf0_7 hj
theorem pf0_13 : pfR tables_1 y0.cls y0.name 13 = some ("ResponseTimeGate", 1, .array .int) := by decide +kernel
theorem m0_12a (hH : H.length = b) (hk : 1 ≤ b) {vs : List Value} {r : AHeap} (hj : 1 < vs.length) : M0 12 (.val (.ref b) :: [l1, l2, l3]) [] (H ++ (.object "ResponseTimeGate", vs) :: r) Q = M0 20 (.val (.ref b) :: [l1, l2, l3]) [] (H ++ (.object "ResponseTimeGate", vs.set 1 (.ref (b + (r.length + 1)))) :: (r ++ [(.array .int, List.replicate 9 (.int 0))])) Q := w_iarr (n := 9) rfl hH hk (show decode kb0 12 = .ok (.aload_n 0, 1) from by decide +kernel) rfl (show decode kb0 13 = .ok (.bipush 9, 2) from by decide +kernel) (fun _ => rfl) (by decide) (show decode kb0 15 = .ok (.newarray .int, 2) from by decide +kernel) rfl (by decide +kernel) (by decide) (by decide) rfl (show decode kb0 17 = .ok (.putfield 13, 3) from by decide +kernel) pf0_13 hj
theorem pf0_16 : pfR tables_1 y0.cls y0.name 16 = some ("ResponseTimeGate", 2, .array .int) := by decide +kernel
theorem m0_20a (hH : H.length = b) (hk : 1 ≤ b) {vs : List Value} {r : AHeap} (hj : 2 < vs.length) : M0 20 (.val (.ref b) :: [l1, l2, l3]) [] (H ++ (.object "ResponseTimeGate", vs) :: r) Q = M0 28 (.val (.ref b) :: [l1, l2, l3]) [] (H ++ (.object "ResponseTimeGate", vs.set 2 (.ref (b + (r.length + 1)))) :: (r ++ [(.array .int, List.replicate 9 (.int 0))])) Q := w_iarr (n := 9) rfl hH hk (show decode kb0 20 = .ok (.aload_n 0, 1) from by decide +kernel) rfl (show decode kb0 21 = .ok (.bipush 9, 2) from by decide +kernel) (fun _ => rfl) (by decide) (show decode kb0 23 = .ok (.newarray .int, 2) from by decide +kernel) rfl (by decide +kernel) (by decide) (by decide) rfl (show decode kb0 25 = .ok (.putfield 16, 3) from by decide +kernel) pf0_16 hj
theorem pf0_19 : pfR tables_1 y0.cls y0.name 19 = some ("ResponseTimeGate", 3, .array .int) := by decide +kernel
theorem m0_28a (hH : H.length = b) (hk : 1 ≤ b) {vs : List Value} {r : AHeap} (hj : 3 < vs.length) : M0 28 (.val (.ref b) :: [l1, l2, l3]) [] (H ++ (.object "ResponseTimeGate", vs) :: r) Q = M0 36 (.val (.ref b) :: [l1, l2, l3]) [] (H ++ (.object "ResponseTimeGate", vs.set 3 (.ref (b + (r.length + 1)))) :: (r ++ [(.array .int, List.replicate 9 (.int 0))])) Q := w_iarr (n := 9) rfl hH hk (show decode kb0 28 = .ok (.aload_n 0, 1) from by decide +kernel) rfl (show decode kb0 29 = .ok (.bipush 9, 2) from by decide +kernel) (fun _ => rfl) (by decide) (show decode kb0 31 = .ok (.newarray .int, 2) from by decide +kernel) rfl (by decide +kernel) (by decide) (by decide) rfl (show decode kb0 33 = .ok (.putfield 19, 3) from by decide +kernel) pf0_19 hj
theorem pf0_22 : pfR tables_1 y0.cls y0.name 22 = some ("ResponseTimeGate", 4, .array .int) := by decide +kernel
theorem m0_36a (hH : H.length = b) (hk : 1 ≤ b) {vs : List Value} {r : AHeap} (hj : 4 < vs.length) : M0 36 (.val (.ref b) :: [l1, l2, l3]) [] (H ++ (.object "ResponseTimeGate", vs) :: r) Q = M0 44 (.val (.ref b) :: [l1, l2, l3]) [] (H ++ (.object "ResponseTimeGate", vs.set 4 (.ref (b + (r.length + 1)))) :: (r ++ [(.array .int, List.replicate 36 (.int 0))])) Q := w_iarr (n := 36) rfl hH hk (show decode kb0 36 = .ok (.aload_n 0, 1) from by decide +kernel) rfl (show decode kb0 37 = .ok (.bipush 36, 2) from by decide +kernel) (fun _ => rfl) (by decide) (show decode kb0 39 = .ok (.newarray .int, 2) from by decide +kernel) rfl (by decide +kernel) (by decide) (by decide) rfl (show decode kb0 41 = .ok (.putfield 22, 3) from by decide +kernel) pf0_22 hj
theorem pf0_25 : pfR tables_1 y0.cls y0.name 25 = some ("ResponseTimeGate", 5, .array .int) := by decide +kernel
theorem m0_44a (hH : H.length = b) (hk : 1 ≤ b) {vs : List Value} {r : AHeap} (hj : 5 < vs.length) : M0 44 (.val (.ref b) :: [l1, l2, l3]) [] (H ++ (.object "ResponseTimeGate", vs) :: r) Q = M0 52 (.val (.ref b) :: [l1, l2, l3]) [] (H ++ (.object "ResponseTimeGate", vs.set 5 (.ref (b + (r.length + 1)))) :: (r ++ [(.array .int, List.replicate 36 (.int 0))])) Q := w_iarr (n := 36) rfl hH hk (show decode kb0 44 = .ok (.aload_n 0, 1) from by decide +kernel) rfl (show decode kb0 45 = .ok (.bipush 36, 2) from by decide +kernel) (fun _ => rfl) (by decide) (show decode kb0 47 = .ok (.newarray .int, 2) from by decide +kernel) rfl (by decide +kernel) (by decide) (by decide) rfl (show decode kb0 49 = .ok (.putfield 25, 3) from by decide +kernel) pf0_25 hj
theorem pf0_28 : pfR tables_1 y0.cls y0.name 28 = some ("ResponseTimeGate", 6, .array .int) := by decide +kernel
theorem m0_52a (hH : H.length = b) (hk : 1 ≤ b) {vs : List Value} {r : AHeap} (hj : 6 < vs.length) : M0 52 (.val (.ref b) :: [l1, l2, l3]) [] (H ++ (.object "ResponseTimeGate", vs) :: r) Q = M0 60 (.val (.ref b) :: [l1, l2, l3]) [] (H ++ (.object "ResponseTimeGate", vs.set 6 (.ref (b + (r.length + 1)))) :: (r ++ [(.array .int, List.replicate 9 (.int 0))])) Q := w_iarr (n := 9) rfl hH hk (show decode kb0 52 = .ok (.aload_n 0, 1) from by decide +kernel) rfl (show decode kb0 53 = .ok (.bipush 9, 2) from by decide +kernel) (fun _ => rfl) (by decide) (show decode kb0 55 = .ok (.newarray .int, 2) from by decide +kernel) rfl (by decide +kernel) (by decide) (by decide) rfl (show decode kb0 57 = .ok (.putfield 28, 3) from by decide +kernel) pf0_28 hj
theorem pf0_31 : pfR tables_1 y0.cls y0.name 31 = some ("ResponseTimeGate", 7, .array .int) := by decide +kernel
theorem m0_60a (hH : H.length = b) (hk : 1 ≤ b) {vs : List Value} {r : AHeap} (hj : 7 < vs.length) : M0 60 (.val (.ref b) :: [l1, l2, l3]) [] (H ++ (.object "ResponseTimeGate", vs) :: r) Q = M0 68 (.val (.ref b) :: [l1, l2, l3]) [] (H ++ (.object "ResponseTimeGate", vs.set 7 (.ref (b + (r.length + 1)))) :: (r ++ [(.array .int, List.replicate 9 (.int 0))])) Q := w_iarr (n := 9) rfl hH hk (show decode kb0 60 = .ok (.aload_n 0, 1) from by decide +kernel) rfl (show decode kb0 61 = .ok (.bipush 9, 2) from by decide +kernel) (fun _ => rfl) (by decide) (show decode kb0 63 = .ok (.newarray .int, 2) from by decide +kernel) rfl (by decide +kernel) (by decide) (by decide) rfl (show decode kb0 65 = .ok (.putfield 31, 3) from by decide +kernel) pf0_31 hj
theorem pf0_34 : pfR tables_1 y0.cls y0.name 34 = some ("ResponseTimeGate", 8, .array .int) := by decide +kernel
theorem m0_68a (hH : H.length = b) (hk : 1 ≤ b) {vs : List Value} {r : AHeap} (hj : 8 < vs.length) : M0 68 (.val (.ref b) :: [l1, l2, l3]) [] (H ++ (.object "ResponseTimeGate", vs) :: r) Q = M0 75 (.val (.ref b) :: [l1, l2, l3]) [] (H ++ (.object "ResponseTimeGate", vs.set 8 (.ref (b + (r.length + 1)))) :: (r ++ [(.array .int, List.replicate 4 (.int 0))])) Q := w_iarr (n := 4) rfl hH hk (show decode kb0 68 = .ok (.aload_n 0, 1) from by decide +kernel) rfl (show decode kb0 69 = .ok (.iconst 4, 1) from by decide +kernel) (fun _ => rfl) (by decide) (show decode kb0 70 = .ok (.newarray .int, 2) from by decide +kernel) rfl (by decide +kernel) (by decide) (by decide) rfl (show decode kb0 72 = .ok (.putfield 34, 3) from by decide +kernel) pf0_34 hj
theorem pf0_37 : pfR tables_1 y0.cls y0.name 37 = some ("ResponseTimeGate", 9, .array .int) := by decide +kernel
theorem m0_75a (hH : H.length = b) (hk : 1 ≤ b) {vs : List Value} {r : AHeap} (hj : 9 < vs.length) : M0 75 (.val (.ref b) :: [l1, l2, l3]) [] (H ++ (.object "ResponseTimeGate", vs) :: r) Q = M0 82 (.val (.ref b) :: [l1, l2, l3]) [] (H ++ (.object "ResponseTimeGate", vs.set 9 (.ref (b + (r.length + 1)))) :: (r ++ [(.array .int, List.replicate 4 (.int 0))])) Q := w_iarr (n := 4) rfl hH hk (show decode kb0 75 = .ok (.aload_n 0, 1) from by decide +kernel) rfl (show decode kb0 76 = .ok (.iconst 4, 1) from by decide +kernel) (fun _ => rfl) (by decide) (show decode kb0 77 = .ok (.newarray .int, 2) from by decide +kernel) rfl (by decide +kernel) (by decide) (by decide) rfl (show decode kb0 79 = .ok (.putfield 37, 3) from by decide +kernel) pf0_37 hj
theorem pf0_40 : pfR tables_1 y0.cls y0.name 40 = some ("ResponseTimeGate", 10, .array .int) := by decide +kernel
theorem m0_82a (hH : H.length = b) (hk : 1 ≤ b) {vs : List Value} {r : AHeap} (hj : 10 < vs.length) : M0 82 (.val (.ref b) :: [l1, l2, l3]) [] (H ++ (.object "ResponseTimeGate", vs) :: r) Q = M0 89 (.val (.ref b) :: [l1, l2, l3]) [] (H ++ (.object "ResponseTimeGate", vs.set 10 (.ref (b + (r.length + 1)))) :: (r ++ [(.array .int, List.replicate 4 (.int 0))])) Q := w_iarr (n := 4) rfl hH hk (show decode kb0 82 = .ok (.aload_n 0, 1) from by decide +kernel) rfl (show decode kb0 83 = .ok (.iconst 4, 1) from by decide +kernel) (fun _ => rfl) (by decide) (show decode kb0 84 = .ok (.newarray .int, 2) from by decide +kernel) rfl (by decide +kernel) (by decide) (by decide) rfl (show decode kb0 86 = .ok (.putfield 40, 3) from by decide +kernel) pf0_40 hj
theorem pf0_43 : pfR tables_1 y0.cls y0.name 43 = some ("ResponseTimeGate", 11, .array .int) := by decide +kernel
theorem m0_89a (hH : H.length = b) (hk : 1 ≤ b) {vs : List Value} {r : AHeap} (hj : 11 < vs.length) : M0 89 (.val (.ref b) :: [l1, l2, l3]) [] (H ++ (.object "ResponseTimeGate", vs) :: r) Q = M0 96 (.val (.ref b) :: [l1, l2, l3]) [] (H ++ (.object "ResponseTimeGate", vs.set 11 (.ref (b + (r.length + 1)))) :: (r ++ [(.array .int, List.replicate 4 (.int 0))])) Q := w_iarr (n := 4) rfl hH hk (show decode kb0 89 = .ok (.aload_n 0, 1) from by decide +kernel) rfl (show decode kb0 90 = .ok (.iconst 4, 1) from by decide +kernel) (fun _ => rfl) (by decide) (show decode kb0 91 = .ok (.newarray .int, 2) from by decide +kernel) rfl (by decide +kernel) (by decide) (by decide) rfl (show decode kb0 93 = .ok (.putfield 43, 3) from by decide +kernel) pf0_43 hj
theorem pf0_46 : pfR tables_1 y0.cls y0.name 46 = some ("ResponseTimeGate", 12, .array .int) := by decide +kernel
theorem m0_96a (hH : H.length = b) (hk : 1 ≤ b) {vs : List Value} {r : AHeap} (hj : 12 < vs.length) : M0 96 (.val (.ref b) :: [l1, l2, l3]) [] (H ++ (.object "ResponseTimeGate", vs) :: r) Q = M0 104 (.val (.ref b) :: [l1, l2, l3]) [] (H ++ (.object "ResponseTimeGate", vs.set 12 (.ref (b + (r.length + 1)))) :: (r ++ [(.array .int, List.replicate 9 (.int 0))])) Q := w_iarr (n := 9) rfl hH hk (show decode kb0 96 = .ok (.aload_n 0, 1) from by decide +kernel) rfl (show decode kb0 97 = .ok (.bipush 9, 2) from by decide +kernel) (fun _ => rfl) (by decide) (show decode kb0 99 = .ok (.newarray .int, 2) from by decide +kernel) rfl (by decide +kernel) (by decide) (by decide) rfl (show decode kb0 101 = .ok (.putfield 46, 3) from by decide +kernel) pf0_46 hj
theorem pf0_49 : pfR tables_1 y0.cls y0.name 49 = some ("ResponseTimeGate", 13, .array .int) := by decide +kernel
theorem m0_104a (hH : H.length = b) (hk : 1 ≤ b) {vs : List Value} {r : AHeap} (hj : 13 < vs.length) : M0 104 (.val (.ref b) :: [l1, l2, l3]) [] (H ++ (.object "ResponseTimeGate", vs) :: r) Q = M0 112 (.val (.ref b) :: [l1, l2, l3]) [] (H ++ (.object "ResponseTimeGate", vs.set 13 (.ref (b + (r.length + 1)))) :: (r ++ [(.array .int, List.replicate 9 (.int 0))])) Q := w_iarr (n := 9) rfl hH hk (show decode kb0 104 = .ok (.aload_n 0, 1) from by decide +kernel) rfl (show decode kb0 105 = .ok (.bipush 9, 2) from by decide +kernel) (fun _ => rfl) (by decide) (show decode kb0 107 = .ok (.newarray .int, 2) from by decide +kernel) rfl (by decide +kernel) (by decide) (by decide) rfl (show decode kb0 109 = .ok (.putfield 49, 3) from by decide +kernel) pf0_49 hj
theorem pf0_52 : pfR tables_1 y0.cls y0.name 52 = some ("ResponseTimeGate", 14, .array .boolean) := by decide +kernel
theorem m0_112a (hH : H.length = b) (hk : 1 ≤ b) {vs : List Value} {r : AHeap} (hj : 14 < vs.length) : M0 112 (.val (.ref b) :: [l1, l2, l3]) [] (H ++ (.object "ResponseTimeGate", vs) :: r) Q = M0 120 (.val (.ref b) :: [l1, l2, l3]) [] (H ++ (.object "ResponseTimeGate", vs.set 14 (.ref (b + (r.length + 1)))) :: (r ++ [(.array .boolean, List.replicate 9 (.int 0))])) Q := w_iarr (n := 9) rfl hH hk (show decode kb0 112 = .ok (.aload_n 0, 1) from by decide +kernel) rfl (show decode kb0 113 = .ok (.bipush 9, 2) from by decide +kernel) (fun _ => rfl) (by decide) (show decode kb0 115 = .ok (.newarray .boolean, 2) from by decide +kernel) rfl (by decide +kernel) (by decide) (by decide) rfl (show decode kb0 117 = .ok (.putfield 52, 3) from by decide +kernel) pf0_52 hj
theorem pf0_56 : pfR tables_1 y0.cls y0.name 56 = some ("ResponseTimeGate", 15, .array .int) := by decide +kernel
theorem m0_120a (hH : H.length = b) (hk : 1 ≤ b) {vs : List Value} {r : AHeap} (hj : 15 < vs.length) : M0 120 (.val (.ref b) :: [l1, l2, l3]) [] (H ++ (.object "ResponseTimeGate", vs) :: r) Q = M0 128 (.val (.ref b) :: [l1, l2, l3]) [] (H ++ (.object "ResponseTimeGate", vs.set 15 (.ref (b + (r.length + 1)))) :: (r ++ [(.array .int, List.replicate 9 (.int 0))])) Q := w_iarr (n := 9) rfl hH hk (show decode kb0 120 = .ok (.aload_n 0, 1) from by decide +kernel) rfl (show decode kb0 121 = .ok (.bipush 9, 2) from by decide +kernel) (fun _ => rfl) (by decide) (show decode kb0 123 = .ok (.newarray .int, 2) from by decide +kernel) rfl (by decide +kernel) (by decide) (by decide) rfl (show decode kb0 125 = .ok (.putfield 56, 3) from by decide +kernel) pf0_56 hj
theorem pf0_59 : pfR tables_1 y0.cls y0.name 59 = some ("ResponseTimeGate", 16, .array .int) := by decide +kernel
theorem m0_128a (hH : H.length = b) (hk : 1 ≤ b) {vs : List Value} {r : AHeap} (hj : 16 < vs.length) : M0 128 (.val (.ref b) :: [l1, l2, l3]) [] (H ++ (.object "ResponseTimeGate", vs) :: r) Q = M0 136 (.val (.ref b) :: [l1, l2, l3]) [] (H ++ (.object "ResponseTimeGate", vs.set 16 (.ref (b + (r.length + 1)))) :: (r ++ [(.array .int, List.replicate 9 (.int 0))])) Q := w_iarr (n := 9) rfl hH hk (show decode kb0 128 = .ok (.aload_n 0, 1) from by decide +kernel) rfl (show decode kb0 129 = .ok (.bipush 9, 2) from by decide +kernel) (fun _ => rfl) (by decide) (show decode kb0 131 = .ok (.newarray .int, 2) from by decide +kernel) rfl (by decide +kernel) (by decide) (by decide) rfl (show decode kb0 133 = .ok (.putfield 59, 3) from by decide +kernel) pf0_59 hj
theorem pf0_62 : pfR tables_1 y0.cls y0.name 62 = some ("ResponseTimeGate", 17, .array .int) := by decide +kernel
theorem m0_136a (hH : H.length = b) (hk : 1 ≤ b) {vs : List Value} {r : AHeap} (hj : 17 < vs.length) : M0 136 (.val (.ref b) :: [l1, l2, l3]) [] (H ++ (.object "ResponseTimeGate", vs) :: r) Q = M0 144 (.val (.ref b) :: [l1, l2, l3]) [] (H ++ (.object "ResponseTimeGate", vs.set 17 (.ref (b + (r.length + 1)))) :: (r ++ [(.array .int, List.replicate 9 (.int 0))])) Q := w_iarr (n := 9) rfl hH hk (show decode kb0 136 = .ok (.aload_n 0, 1) from by decide +kernel) rfl (show decode kb0 137 = .ok (.bipush 9, 2) from by decide +kernel) (fun _ => rfl) (by decide) (show decode kb0 139 = .ok (.newarray .int, 2) from by decide +kernel) rfl (by decide +kernel) (by decide) (by decide) rfl (show decode kb0 141 = .ok (.putfield 62, 3) from by decide +kernel) pf0_62 hj
theorem pf0_65 : pfR tables_1 y0.cls y0.name 65 = some ("ResponseTimeGate", 18, .array .int) := by decide +kernel
theorem m0_144a (hH : H.length = b) (hk : 1 ≤ b) {vs : List Value} {r : AHeap} (hj : 18 < vs.length) : M0 144 (.val (.ref b) :: [l1, l2, l3]) [] (H ++ (.object "ResponseTimeGate", vs) :: r) Q = M0 152 (.val (.ref b) :: [l1, l2, l3]) [] (H ++ (.object "ResponseTimeGate", vs.set 18 (.ref (b + (r.length + 1)))) :: (r ++ [(.array .int, List.replicate 9 (.int 0))])) Q := w_iarr (n := 9) rfl hH hk (show decode kb0 144 = .ok (.aload_n 0, 1) from by decide +kernel) rfl (show decode kb0 145 = .ok (.bipush 9, 2) from by decide +kernel) (fun _ => rfl) (by decide) (show decode kb0 147 = .ok (.newarray .int, 2) from by decide +kernel) rfl (by decide +kernel) (by decide) (by decide) rfl (show decode kb0 149 = .ok (.putfield 65, 3) from by decide +kernel) pf0_65 hj
theorem pf0_68 : pfR tables_1 y0.cls y0.name 68 = some ("ResponseTimeGate", 19, .array .int) := by decide +kernel
theorem m0_152a (hH : H.length = b) (hk : 1 ≤ b) {vs : List Value} {r : AHeap} (hj : 19 < vs.length) : M0 152 (.val (.ref b) :: [l1, l2, l3]) [] (H ++ (.object "ResponseTimeGate", vs) :: r) Q = M0 160 (.val (.ref b) :: [l1, l2, l3]) [] (H ++ (.object "ResponseTimeGate", vs.set 19 (.ref (b + (r.length + 1)))) :: (r ++ [(.array .int, List.replicate 9 (.int 0))])) Q := w_iarr (n := 9) rfl hH hk (show decode kb0 152 = .ok (.aload_n 0, 1) from by decide +kernel) rfl (show decode kb0 153 = .ok (.bipush 9, 2) from by decide +kernel) (fun _ => rfl) (by decide) (show decode kb0 155 = .ok (.newarray .int, 2) from by decide +kernel) rfl (by decide +kernel) (by decide) (by decide) rfl (show decode kb0 157 = .ok (.putfield 68, 3) from by decide +kernel) pf0_68 hj
def A0 : Nat → List Int32
  | 0 => List.replicate 9 0
  | 1 => List.replicate 9 0
  | 2 => List.replicate 9 0
  | 3 => List.replicate 9 0
  | 4 => List.replicate 36 0
  | 5 => List.replicate 36 0
  | 6 => List.replicate 9 0
  | 7 => List.replicate 9 0
  | 8 => List.replicate 4 0
  | 9 => List.replicate 4 0
  | 10 => List.replicate 4 0
  | 11 => List.replicate 4 0
  | 12 => List.replicate 9 0
  | 13 => List.replicate 9 0
  | 14 => List.replicate 9 0
  | 15 => List.replicate 9 0
  | 16 => List.replicate 9 0
  | 17 => List.replicate 9 0
  | 18 => List.replicate 9 0
  | 19 => List.replicate 9 0
  | _ => []
theorem A0l_0 : (A0 0).length = 9 := List.length_replicate
theorem A0g_0 (j : Int32) : getA (A0 0) j = 0 := getA_rep _ _
theorem A0l_1 : (A0 1).length = 9 := List.length_replicate
theorem A0g_1 (j : Int32) : getA (A0 1) j = 0 := getA_rep _ _
theorem A0l_2 : (A0 2).length = 9 := List.length_replicate
theorem A0g_2 (j : Int32) : getA (A0 2) j = 0 := getA_rep _ _
theorem A0l_3 : (A0 3).length = 9 := List.length_replicate
theorem A0g_3 (j : Int32) : getA (A0 3) j = 0 := getA_rep _ _
theorem A0l_4 : (A0 4).length = 36 := List.length_replicate
theorem A0g_4 (j : Int32) : getA (A0 4) j = 0 := getA_rep _ _
theorem A0l_5 : (A0 5).length = 36 := List.length_replicate
theorem A0g_5 (j : Int32) : getA (A0 5) j = 0 := getA_rep _ _
theorem A0l_6 : (A0 6).length = 9 := List.length_replicate
theorem A0g_6 (j : Int32) : getA (A0 6) j = 0 := getA_rep _ _
theorem A0l_7 : (A0 7).length = 9 := List.length_replicate
theorem A0g_7 (j : Int32) : getA (A0 7) j = 0 := getA_rep _ _
theorem A0l_8 : (A0 8).length = 4 := List.length_replicate
theorem A0g_8 (j : Int32) : getA (A0 8) j = 0 := getA_rep _ _
theorem A0l_9 : (A0 9).length = 4 := List.length_replicate
theorem A0g_9 (j : Int32) : getA (A0 9) j = 0 := getA_rep _ _
theorem A0l_10 : (A0 10).length = 4 := List.length_replicate
theorem A0g_10 (j : Int32) : getA (A0 10) j = 0 := getA_rep _ _
theorem A0l_11 : (A0 11).length = 4 := List.length_replicate
theorem A0g_11 (j : Int32) : getA (A0 11) j = 0 := getA_rep _ _
theorem A0l_12 : (A0 12).length = 9 := List.length_replicate
theorem A0g_12 (j : Int32) : getA (A0 12) j = 0 := getA_rep _ _
theorem A0l_13 : (A0 13).length = 9 := List.length_replicate
theorem A0g_13 (j : Int32) : getA (A0 13) j = 0 := getA_rep _ _
theorem A0l_14 : (A0 14).length = 9 := List.length_replicate
theorem A0g_14 (j : Int32) : getA (A0 14) j = 0 := getA_rep _ _
theorem A0l_15 : (A0 15).length = 9 := List.length_replicate
theorem A0g_15 (j : Int32) : getA (A0 15) j = 0 := getA_rep _ _
theorem A0l_16 : (A0 16).length = 9 := List.length_replicate
theorem A0g_16 (j : Int32) : getA (A0 16) j = 0 := getA_rep _ _
theorem A0l_17 : (A0 17).length = 9 := List.length_replicate
theorem A0g_17 (j : Int32) : getA (A0 17) j = 0 := getA_rep _ _
theorem A0l_18 : (A0 18).length = 9 := List.length_replicate
theorem A0g_18 (j : Int32) : getA (A0 18) j = 0 := getA_rep _ _
theorem A0l_19 : (A0 19).length = 9 := List.length_replicate
theorem A0g_19 (j : Int32) : getA (A0 19) j = 0 := getA_rep _ _
theorem own_ctor0 (hb : pre.length = b) (hk : 1 ≤ b) : M0 0 (.val (.ref b) :: [l1, l2, l3]) [] (pre ++ [(.object "ResponseTimeGate", D0)]) Q = M0 160 (.val (.ref b) :: [l1, l2, l3]) [] (put b pre (fun _ => 0) A0 []) Q := by
  rw [m0_0, m0_1, m0_4a hb hk (by (repeat rw [List.length_set]); exact Nat.le_of_ble_eq_true rfl), m0_12a hb hk (by (repeat rw [List.length_set]); exact Nat.le_of_ble_eq_true rfl), m0_20a hb hk (by (repeat rw [List.length_set]); exact Nat.le_of_ble_eq_true rfl), m0_28a hb hk (by (repeat rw [List.length_set]); exact Nat.le_of_ble_eq_true rfl), m0_36a hb hk (by (repeat rw [List.length_set]); exact Nat.le_of_ble_eq_true rfl), m0_44a hb hk (by (repeat rw [List.length_set]); exact Nat.le_of_ble_eq_true rfl), m0_52a hb hk (by (repeat rw [List.length_set]); exact Nat.le_of_ble_eq_true rfl), m0_60a hb hk (by (repeat rw [List.length_set]); exact Nat.le_of_ble_eq_true rfl), m0_68a hb hk (by (repeat rw [List.length_set]); exact Nat.le_of_ble_eq_true rfl), m0_75a hb hk (by (repeat rw [List.length_set]); exact Nat.le_of_ble_eq_true rfl), m0_82a hb hk (by (repeat rw [List.length_set]); exact Nat.le_of_ble_eq_true rfl), m0_89a hb hk (by (repeat rw [List.length_set]); exact Nat.le_of_ble_eq_true rfl), m0_96a hb hk (by (repeat rw [List.length_set]); exact Nat.le_of_ble_eq_true rfl), m0_104a hb hk (by (repeat rw [List.length_set]); exact Nat.le_of_ble_eq_true rfl), m0_112a hb hk (by (repeat rw [List.length_set]); exact Nat.le_of_ble_eq_true rfl), m0_120a hb hk (by (repeat rw [List.length_set]); exact Nat.le_of_ble_eq_true rfl), m0_128a hb hk (by (repeat rw [List.length_set]); exact Nat.le_of_ble_eq_true rfl), m0_136a hb hk (by (repeat rw [List.length_set]); exact Nat.le_of_ble_eq_true rfl), m0_144a hb hk (by (repeat rw [List.length_set]); exact Nat.le_of_ble_eq_true rfl), m0_152a hb hk (by (repeat rw [List.length_set]); exact Nat.le_of_ble_eq_true rfl)]
  simp only [put, pad_eq hb, objv, D0, A0, List.map_replicate, List.set_cons_succ, List.set_cons_zero, List.nil_append, List.cons_append, List.length_cons, List.length_nil, List.append_nil]
end Rules
/- methods: 0=ResponseTimeGate.<init>(I)V; 1=ResponseTimeGate.resetSim()V; 2=ResponseTimeGate.commitTask()I; 3=ResponseTimeGate.misses()I; 4=ResponseTimeGate.taskCount()I; 5=ResponseTimeGate.hyperperiod()I; 6=ResponseTimeGate.failedTask()I; 7=ResponseTimeGate.time()I; 8=ResponseTimeGate.bound(I)I; 9=ResponseTimeGate.admitted(I)Z; 10=ResponseTimeGate.jobsDone(I)I; 11=ResponseTimeGate.ceiling(I)I; 12=ResponseTimeGate.addSection(III)I; 13=ResponseTimeGate.beginTask(IIII)I; 14=ResponseTimeGate.priorityTaken(I)Z; 15=ResponseTimeGate.overlapsStaged(II)Z; 16=ResponseTimeGate.lcmWith(II)I; 17=ResponseTimeGate.gcd(II)I; 18=ResponseTimeGate.placeStaged(I)V; 19=ResponseTimeGate.analyze(I)I; 20=ResponseTimeGate.computeCeilings(I)V; 21=ResponseTimeGate.blockingOf(II)I; 22=ResponseTimeGate.responseOf(III)I; 23=ResponseTimeGate.interference(III)I; 24=ResponseTimeGate.adoptResults(I)V; 25=ResponseTimeGate.run(I)I; 26=ResponseTimeGate.tick()V; 27=ResponseTimeGate.releaseJobs()V; 28=ResponseTimeGate.pickRunning()I; 29=ResponseTimeGate.activePriority(I)I; 30=ResponseTimeGate.executeUnit(I)V; 31=ResponseTimeGate.takeResourceIfStart(I)V; 32=ResponseTimeGate.checkMisses()V; 33=ResponseTimeGate.completeJob(I)V; 34=ResponseTimeGateL6.getC(JI)I; 35=ResponseTimeGateL6.gcd(II)I; 36=ResponseTimeGateL6.setC(JII)J; 37=ResponseTimeGateL6.law([I)Z -/
def own_k17_0 := And.intro (And.intro @m17_0 (And.intro @m17_1u @m17_2)) (And.intro @m17_3u (And.intro @m17_5 @m17_6u))
def own_k17_1 := And.intro (And.intro (And.intro (And.intro @m17_10 @m17_12) (And.intro @m17_15 @m17_17)) (And.intro (And.intro @m17_20 @m17_23) (And.intro @m17_24 @m17_26))) (And.intro (And.intro (And.intro @m17_27u @m17_27i) (And.intro @m17_27r @m17_27g)) (And.intro (And.intro @m17_29 @m17_31i) (And.intro @m17_32 @m17_34i)))
def own_k17_2 := And.intro (And.intro @m17_36 @m17_39) (And.intro @m17_42 @m17_43)
def own_k16_0 := And.intro (And.intro (And.intro (And.intro @m16_0 @m16_1) (And.intro @m16_2 @m16_5)) (And.intro (And.intro @m16_6 @m16_7) (And.intro @m16_10 @m16_13))) (And.intro (And.intro (And.intro @m16_14 @m16_15) (And.intro @m16_16 @m16_17)) (And.intro (And.intro @m16_20u @m16_21) (And.intro @m16_22 @m16_23)))
def own_k16_1 := And.intro (And.intro (And.intro @m16_26 @m16_29) (And.intro @m16_30 @m16_31)) (And.intro (And.intro @m16_32 @m16_33) (And.intro @m16_34 @m16_35))
def own_k35_0 := And.intro (And.intro (And.intro (And.intro @m35_3 @m35_5) (And.intro @m35_8 @m35_9)) (And.intro (And.intro @m35_12 @m35_13) (And.intro @m35_14 @m35_15u))) (And.intro (And.intro (And.intro @m35_15i @m35_15r) (And.intro @m35_15g @m35_16)) (And.intro (And.intro @m35_17i @m35_18) (And.intro @m35_19i @m35_20)))
def own_k35_1 := And.intro @m35_23 (And.intro @m35_26 @m35_27)
def own_k14_0 := And.intro (And.intro (And.intro @m14_3 (And.intro @m14_4 @m14_7)) (And.intro (And.intro @m14_10 @m14_11) (And.intro @m14_14 @m14_15))) (And.intro (And.intro (And.intro @m14_16 @m14_17) (And.intro @m14_20 @m14_21)) (And.intro (And.intro @m14_22 @m14_25) (And.intro @m14_28 @m14_29)))
def own_k15_0 := And.intro (And.intro (And.intro (And.intro @m15_3 @m15_4) (And.intro @m15_7 @m15_8)) (And.intro (And.intro @m15_11 @m15_12) (And.intro @m15_13u @m15_13i))) (And.intro (And.intro (And.intro @m15_13r @m15_13g) (And.intro @m15_15 @m15_17)) (And.intro (And.intro @m15_20 @m15_23) (And.intro @m15_24 @m15_27)))
def own_k15_1 := And.intro (And.intro (And.intro (And.intro @m15_28 @m15_29u) (And.intro @m15_29i @m15_29r)) (And.intro (And.intro @m15_29g @m15_31) (And.intro @m15_32 @m15_34))) (And.intro (And.intro (And.intro @m15_36 @m15_37) (And.intro @m15_40 @m15_42)) (And.intro (And.intro @m15_43 @m15_44) (And.intro @m15_45 @m15_48)))
def own_k15_2 := And.intro (And.intro @m15_49 @m15_50) (And.intro @m15_53 (And.intro @m15_56 @m15_57))
def own_k13_0 := And.intro (And.intro (And.intro (And.intro @m13_0 @m13_1) (And.intro @m13_4 @m13_5)) (And.intro (And.intro @m13_8 @m13_11) (And.intro @m13_12 @m13_13))) (And.intro (And.intro (And.intro @m13_14 @m13_15) (And.intro @m13_18 @m13_19)) (And.intro (And.intro @m13_22 @m13_25) (And.intro @m13_27 @m13_28)))
def own_k13_1 := And.intro (And.intro (And.intro (And.intro @m13_29 @m13_30) (And.intro @m13_33 @m13_34)) (And.intro (And.intro @m13_35 @m13_38) (And.intro @m13_40 @m13_41))) (And.intro (And.intro (And.intro @m13_42 @m13_43) (And.intro @m13_46 @m13_47)) (And.intro (And.intro @m13_48 @m13_51) (And.intro @m13_53 @m13_54)))
def own_k13_2 := And.intro (And.intro (And.intro (And.intro @m13_56 @m13_57) (And.intro @m13_60 @m13_62)) (And.intro (And.intro @m13_64 @m13_67) (And.intro @m13_69 @m13_70))) (And.intro (And.intro (And.intro @m13_71 @m13_73) (And.intro @m13_76 @m13_79)) (And.intro (And.intro @m13_81 @m13_82) (And.intro @m13_83 @m13_84)))
def own_k13_3 := And.intro (And.intro (And.intro @m13_87 (And.intro @m13_88 @m13_89)) (And.intro (And.intro @m13_92 @m13_93) (And.intro @m13_94 @m13_97))) (And.intro (And.intro @m13_98 (And.intro @m13_99 @m13_102)) (And.intro (And.intro @m13_103 @m13_105) (And.intro @m13_108 @m13_109u)))
def own_k13_4 := And.intro (And.intro (And.intro (And.intro @m13_113 @m13_114) (And.intro @m13_117 @m13_118)) (And.intro (And.intro @m13_121 @m13_123) (And.intro @m13_124 @m13_125))) (And.intro (And.intro (And.intro @m13_126 @m13_129) (And.intro @m13_131 @m13_132)) (And.intro (And.intro @m13_133 @m13_136) (And.intro @m13_139 @m13_140)))
def own_k12_0 := And.intro (And.intro (And.intro (And.intro @m12_0 @m12_1) (And.intro @m12_4 @m12_7)) (And.intro (And.intro @m12_9 @m12_10) (And.intro @m12_11 @m12_14))) (And.intro (And.intro (And.intro @m12_15 @m12_16) (And.intro @m12_19 @m12_21)) (And.intro (And.intro @m12_22 @m12_23) (And.intro @m12_26 @m12_27)))
def own_k12_1 := And.intro (And.intro (And.intro (And.intro @m12_28 @m12_31) (And.intro @m12_33 @m12_34)) (And.intro (And.intro @m12_35 @m12_36) (And.intro @m12_39 @m12_42))) (And.intro (And.intro (And.intro @m12_43 @m12_44) (And.intro @m12_47 @m12_48)) (And.intro (And.intro @m12_49 @m12_52) (And.intro @m12_54 @m12_55)))
def own_k12_2 := And.intro (And.intro (And.intro (And.intro @m12_56 @m12_59) (And.intro @m12_60 @m12_61)) (And.intro (And.intro @m12_64 @m12_66) (And.intro @m12_67 @m12_68))) (And.intro (And.intro (And.intro @m12_69 @m12_70) (And.intro @m12_73 @m12_76)) (And.intro (And.intro @m12_78 @m12_79) (And.intro @m12_80 @m12_83)))
def own_k12_3 := And.intro (And.intro (And.intro @m12_84 @m12_85) (And.intro @m12_86 @m12_87)) (And.intro (And.intro @m12_90 @m12_91) (And.intro @m12_92 (And.intro @m12_93 @m12_94)))
def own_k18_0 := And.intro (And.intro (And.intro (And.intro @m18_0 @m18_1) (And.intro @m18_4 @m18_5)) (And.intro (And.intro @m18_6 @m18_9) (And.intro @m18_10 @m18_11))) (And.intro (And.intro (And.intro @m18_14 @m18_15) (And.intro @m18_16 @m18_19)) (And.intro (And.intro @m18_20 @m18_21) (And.intro @m18_24 @m18_25)))
def own_k18_1 := And.intro (And.intro (And.intro @m18_26 @m18_29) (And.intro @m18_30 (And.intro @m18_31 @m18_34))) (And.intro (And.intro @m18_35 @m18_36) (And.intro @m18_39 (And.intro @m18_40 @m18_41u)))
def own_k18_2 := And.intro (And.intro (And.intro (And.intro @m18_43 @m18_44) (And.intro @m18_47 @m18_48)) (And.intro (And.intro @m18_51 @m18_52) (And.intro @m18_53 @m18_54))) (And.intro (And.intro (And.intro @m18_55 @m18_56) (And.intro @m18_57 @m18_60)) (And.intro (And.intro @m18_61 @m18_62) (And.intro @m18_63 @m18_64)))
def own_k18_3 := And.intro (And.intro (And.intro @m18_67 (And.intro @m18_68 @m18_69)) (And.intro @m18_70 (And.intro @m18_71 @m18_72))) (And.intro (And.intro @m18_73 (And.intro @m18_76 @m18_77)) (And.intro (And.intro @m18_78 @m18_79) (And.intro @m18_82 @m18_85)))
def own_k20_0 := And.intro (And.intro (And.intro @m20_3 (And.intro @m20_4 @m20_7)) (And.intro @m20_8u (And.intro @m20_8i @m20_8r))) (And.intro (And.intro @m20_8g (And.intro @m20_9 @m20_10u)) (And.intro @m20_10i (And.intro @m20_10r @m20_10g)))
def own_k20_1 := And.intro (And.intro (And.intro (And.intro @m20_14 @m20_15) (And.intro @m20_18 @m20_19)) (And.intro (And.intro @m20_22 @m20_24) (And.intro @m20_25 @m20_26))) (And.intro (And.intro (And.intro @m20_27 @m20_28) (And.intro @m20_29 @m20_32)) (And.intro (And.intro @m20_33 @m20_36) (And.intro @m20_38 @m20_39)))
def own_k20_2 := And.intro (And.intro (And.intro (And.intro @m20_40 @m20_43) (And.intro @m20_44 @m20_47)) (And.intro (And.intro @m20_49 @m20_50i) (And.intro @m20_51 @m20_54))) (And.intro (And.intro (And.intro @m20_57 @m20_58) (And.intro @m20_61 @m20_62)) (And.intro (And.intro @m20_63 @m20_64) (And.intro @m20_67 @m20_70)))
def own_k21_0 := And.intro (And.intro (And.intro @m21_0 @m21_1u) (And.intro @m21_2 @m21_3)) (And.intro (And.intro @m21_6 @m21_7) (And.intro @m21_8u (And.intro @m21_10 @m21_11u)))
def own_k21_1 := And.intro (And.intro (And.intro @m21_15 (And.intro @m21_16 @m21_19)) (And.intro (And.intro @m21_20 @m21_23) (And.intro @m21_25 @m21_26))) (And.intro (And.intro @m21_28 (And.intro @m21_31 @m21_34)) (And.intro (And.intro @m21_35u @m21_35i) (And.intro @m21_35r @m21_35g)))
def own_k21_2 := And.intro (And.intro (And.intro (And.intro @m21_39 @m21_40) (And.intro @m21_43 @m21_44)) (And.intro (And.intro @m21_47 @m21_49) (And.intro @m21_50 @m21_51))) (And.intro (And.intro (And.intro @m21_53 @m21_54) (And.intro @m21_55u @m21_55i)) (And.intro (And.intro @m21_55r @m21_55g) (And.intro @m21_57 @m21_59)))
def own_k23_0 := And.intro (And.intro (And.intro @m23_0 @m23_1u) (And.intro @m23_3 @m23_4)) (And.intro (And.intro @m23_7 @m23_8) (And.intro @m23_9u (And.intro @m23_11 @m23_12u)))
def own_k23_1 := And.intro (And.intro (And.intro (And.intro @m23_16 @m23_17) (And.intro @m23_20 @m23_21)) (And.intro (And.intro @m23_24 @m23_26) (And.intro @m23_27u @m23_27i))) (And.intro (And.intro (And.intro @m23_27r @m23_27g) (And.intro @m23_29 @m23_30)) (And.intro (And.intro @m23_33 @m23_35) (And.intro @m23_36 @m23_38)))
def own_k23_2 := And.intro (And.intro (And.intro (And.intro @m23_41 @m23_43) (And.intro @m23_46 @m23_48)) (And.intro (And.intro @m23_49 @m23_51) (And.intro @m23_52 @m23_53))) (And.intro (And.intro (And.intro @m23_54 @m23_56) (And.intro @m23_57 @m23_58)) (And.intro (And.intro @m23_61 @m23_63) (And.intro @m23_64 @m23_65)))
def own_k23_3 := And.intro (And.intro @m23_66i @m23_68) (And.intro @m23_71 (And.intro @m23_74 @m23_76))
def own_k22_0 := And.intro (And.intro (And.intro @m22_0 @m22_1) (And.intro @m22_4 (And.intro @m22_5 @m22_6))) (And.intro (And.intro @m22_7 (And.intro @m22_8u @m22_10)) (And.intro @m22_12u (And.intro @m22_14 @m22_15u)))
def own_k22_1 := And.intro (And.intro (And.intro (And.intro @m22_19 @m22_22) (And.intro @m22_25 @m22_27)) (And.intro (And.intro @m22_28 @m22_31) (And.intro @m22_32 @m22_33))) (And.intro (And.intro (And.intro @m22_36 @m22_37) (And.intro @m22_38 @m22_40)) (And.intro (And.intro @m22_41 @m22_42) (And.intro @m22_43 @m22_45)))
def own_k22_2 := And.intro (And.intro (And.intro (And.intro @m22_48 @m22_49u) (And.intro @m22_49i @m22_49r)) (And.intro (And.intro @m22_49g @m22_51) (And.intro @m22_53 @m22_55))) (And.intro (And.intro (And.intro @m22_58 @m22_60) (And.intro @m22_61 @m22_63i)) (And.intro (And.intro @m22_65 @m22_68) (And.intro @m22_71 @m22_72)))
def own_k19_0 := And.intro (And.intro @m19_0 @m19_1) (And.intro @m19_2 (And.intro @m19_5 @m19_6u))
def own_k19_1 := And.intro (And.intro (And.intro (And.intro @m19_8 @m19_9) (And.intro @m19_12 @m19_13)) (And.intro (And.intro @m19_14 @m19_15) (And.intro @m19_18u @m19_18i))) (And.intro (And.intro (And.intro @m19_18r @m19_18g) (And.intro @m19_19 @m19_20)) (And.intro (And.intro @m19_23 @m19_24) (And.intro @m19_25 @m19_26)))
def own_k19_2 := And.intro (And.intro (And.intro (And.intro @m19_27 @m19_28) (And.intro @m19_29 @m19_30)) (And.intro (And.intro @m19_33u @m19_33i) (And.intro @m19_33r @m19_33g))) (And.intro (And.intro (And.intro @m19_35 @m19_37) (And.intro @m19_40 @m19_41)) (And.intro (And.intro @m19_42 @m19_43) (And.intro @m19_46 @m19_47)))
def own_k19_3 := And.intro (And.intro @m19_49 @m19_50) (And.intro @m19_53 (And.intro @m19_56 @m19_57))
def own_k24_0 := And.intro (And.intro (And.intro (And.intro @m24_3 @m24_4) (And.intro @m24_7 @m24_8)) (And.intro (And.intro @m24_11 @m24_12) (And.intro @m24_13 @m24_16))) (And.intro (And.intro (And.intro @m24_17 @m24_18) (And.intro @m24_19 @m24_20)) (And.intro (And.intro @m24_23 @m24_24) (And.intro @m24_25 @m24_28)))
def own_k24_1 := And.intro (And.intro @m24_29 (And.intro @m24_30 @m24_31)) (And.intro @m24_34 (And.intro @m24_37 @m24_38i))
def own_k24_2 := And.intro (And.intro (And.intro @m24_40 (And.intro @m24_41 @m24_44)) (And.intro @m24_45 (And.intro @m24_48 @m24_49))) (And.intro (And.intro @m24_50 (And.intro @m24_53 @m24_54)) (And.intro (And.intro @m24_55 @m24_56) (And.intro @m24_59 @m24_62)))
def own_k1_0 := And.intro (And.intro (And.intro @m1_0 @m1_1) (And.intro @m1_2 @m1_5)) (And.intro (And.intro @m1_6 @m1_7) (And.intro @m1_10 @m1_11u))
def own_k1_1 := And.intro (And.intro (And.intro (And.intro @m1_13 @m1_15) (And.intro @m1_18 @m1_19)) (And.intro (And.intro @m1_22 @m1_23) (And.intro @m1_24 @m1_25))) (And.intro (And.intro (And.intro @m1_26 @m1_29) (And.intro @m1_30 @m1_31)) (And.intro (And.intro @m1_32 @m1_33) (And.intro @m1_36 @m1_37)))
def own_k1_2 := And.intro (And.intro (And.intro (And.intro @m1_38 @m1_39) (And.intro @m1_40 @m1_43)) (And.intro (And.intro @m1_44 @m1_45) (And.intro @m1_46 @m1_47))) (And.intro (And.intro (And.intro @m1_50 @m1_51) (And.intro @m1_52 @m1_53)) (And.intro (And.intro @m1_54 @m1_57) (And.intro @m1_58 @m1_59)))
def own_k1_3 := And.intro @m1_60 (And.intro @m1_63 @m1_66)
def own_k2_0 := And.intro (And.intro (And.intro (And.intro @m2_0 @m2_1) (And.intro @m2_4 @m2_7)) (And.intro (And.intro @m2_9 @m2_10) (And.intro @m2_11 @m2_14u))) (And.intro (And.intro (And.intro @m2_15 @m2_16) (And.intro @m2_18 @m2_21)) (And.intro (And.intro @m2_22 @m2_23) (And.intro @m2_26 @m2_27)))
def own_k2_1 := And.intro (And.intro (And.intro (And.intro @m2_28 @m2_29) (And.intro @m2_30 @m2_33)) (And.intro (And.intro @m2_34 @m2_37) (And.intro @m2_40u @m2_41))) (And.intro (And.intro (And.intro @m2_42 @m2_45) (And.intro @m2_48 @m2_49)) (And.intro (And.intro @m2_50 @m2_53) (And.intro @m2_54 @m2_55)))
def own_k2_2 := And.intro (And.intro (And.intro (And.intro @m2_58 @m2_60) (And.intro @m2_61 @m2_62)) (And.intro (And.intro @m2_63 @m2_66) (And.intro @m2_67 @m2_68))) (And.intro (And.intro (And.intro @m2_69 @m2_70) (And.intro @m2_73u @m2_74)) (And.intro (And.intro @m2_75 @m2_78) (And.intro @m2_79 @m2_80)))
def own_k2_3 := And.intro (And.intro (And.intro (And.intro @m2_83 @m2_84) (And.intro @m2_85 @m2_88)) (And.intro (And.intro @m2_90 @m2_91) (And.intro @m2_92 @m2_93))) (And.intro (And.intro (And.intro @m2_94 @m2_95) (And.intro @m2_98 @m2_99)) (And.intro (And.intro @m2_100 @m2_101) (And.intro @m2_102 @m2_105)))
def own_k2_4 := And.intro (And.intro (And.intro @m2_106 (And.intro @m2_107 @m2_110)) (And.intro @m2_111 (And.intro @m2_112 @m2_115))) (And.intro (And.intro @m2_116 (And.intro @m2_117 @m2_120)) (And.intro @m2_121 (And.intro @m2_124 @m2_125)))
def own_k27_0 := And.intro (And.intro (And.intro (And.intro @m27_3 @m27_4) (And.intro @m27_7 @m27_10)) (And.intro (And.intro @m27_11 @m27_14) (And.intro @m27_15 @m27_16u))) (And.intro (And.intro (And.intro @m27_16i @m27_16r) (And.intro @m27_16g @m27_17)) (And.intro (And.intro @m27_18 @m27_21) (And.intro @m27_22 @m27_25)))
def own_k27_1 := And.intro (And.intro (And.intro (And.intro @m27_26 @m27_27) (And.intro @m27_30 @m27_31)) (And.intro (And.intro @m27_34 @m27_35) (And.intro @m27_36 @m27_37))) (And.intro (And.intro (And.intro @m27_38 @m27_41) (And.intro @m27_42 @m27_43)) (And.intro (And.intro @m27_46 @m27_47) (And.intro @m27_48 @m27_51)))
def own_k27_2 := And.intro (And.intro (And.intro @m27_52 @m27_53) (And.intro @m27_54 (And.intro @m27_55 @m27_58))) (And.intro (And.intro @m27_59 @m27_60) (And.intro @m27_61 (And.intro @m27_64 @m27_67)))
def own_k29_0 := And.intro (And.intro (And.intro (And.intro @m29_0 @m29_1) (And.intro @m29_4 @m29_5)) (And.intro (And.intro @m29_6u @m29_7) (And.intro @m29_8 @m29_11))) (And.intro (And.intro (And.intro @m29_12 @m29_13) (And.intro @m29_16 @m29_17)) (And.intro (And.intro @m29_20 @m29_21) (And.intro @m29_22 @m29_23)))
def own_k29_1 := And.intro (And.intro @m29_24 @m29_27) (And.intro @m29_28 @m29_29)
def own_k28_0 := And.intro (And.intro (And.intro @m28_0 @m28_1u) (And.intro @m28_2 @m28_3u)) (And.intro (And.intro @m28_4 @m28_5u) (And.intro @m28_6 @m28_7u))
def own_k28_1 := And.intro (And.intro (And.intro (And.intro @m28_11 @m28_12) (And.intro @m28_15 @m28_18)) (And.intro (And.intro @m28_19 @m28_22) (And.intro @m28_24 @m28_25))) (And.intro (And.intro (And.intro @m28_28 @m28_31) (And.intro @m28_32 @m28_34)) (And.intro (And.intro @m28_37u @m28_37i) (And.intro @m28_37r @m28_37g)))
def own_k28_2 := And.intro (And.intro (And.intro (And.intro @m28_39 @m28_40) (And.intro @m28_43 @m28_45)) (And.intro (And.intro @m28_46 @m28_49) (And.intro @m28_50 @m28_53))) (And.intro (And.intro (And.intro @m28_54u @m28_54i) (And.intro @m28_54r @m28_54g)) (And.intro (And.intro @m28_56 @m28_57) (And.intro @m28_60 @m28_62)))
def own_k28_3 := And.intro (And.intro (And.intro (And.intro @m28_63 @m28_66) (And.intro @m28_68 @m28_69)) (And.intro (And.intro @m28_72 @m28_74) (And.intro @m28_77 @m28_78))) (And.intro (And.intro (And.intro @m28_81 @m28_83i) (And.intro @m28_84 @m28_86i)) (And.intro (And.intro @m28_87 @m28_89i) (And.intro @m28_90 @m28_93)))
def own_k31_0 := And.intro (And.intro (And.intro @m31_0 @m31_1) (And.intro @m31_4 @m31_5)) (And.intro (And.intro @m31_6 @m31_9) (And.intro @m31_10 @m31_11u))
def own_k31_1 := And.intro (And.intro (And.intro (And.intro @m31_13 @m31_14) (And.intro @m31_17 @m31_18)) (And.intro (And.intro @m31_21 @m31_22) (And.intro @m31_23 @m31_24))) (And.intro (And.intro (And.intro @m31_25 @m31_26) (And.intro @m31_27 @m31_30)) (And.intro (And.intro @m31_31 @m31_34) (And.intro @m31_35 @m31_36)))
def own_k31_2 := And.intro (And.intro (And.intro (And.intro @m31_37 @m31_38) (And.intro @m31_39 @m31_40)) (And.intro (And.intro @m31_41 @m31_44) (And.intro @m31_45 @m31_46))) (And.intro (And.intro (And.intro @m31_49 @m31_50) (And.intro @m31_53 @m31_54)) (And.intro (And.intro @m31_55 @m31_56) (And.intro @m31_57 @m31_60)))
def own_k33_0 := And.intro (And.intro (And.intro (And.intro @m33_0 @m33_1) (And.intro @m33_4 @m33_5)) (And.intro (And.intro @m33_6 @m33_7) (And.intro @m33_10 @m33_11))) (And.intro (And.intro (And.intro @m33_12 @m33_13u) (And.intro @m33_14 @m33_15)) (And.intro (And.intro @m33_18 @m33_19) (And.intro @m33_20 @m33_23)))
def own_k33_1 := And.intro (And.intro (And.intro (And.intro @m33_24 @m33_25) (And.intro @m33_26 @m33_27)) (And.intro (And.intro @m33_28 @m33_29) (And.intro @m33_30 @m33_33))) (And.intro (And.intro (And.intro @m33_34 @m33_35) (And.intro @m33_38 @m33_39)) (And.intro (And.intro @m33_42 @m33_43) (And.intro @m33_44 @m33_45)))
def own_k33_2 := And.intro (And.intro (And.intro @m33_46 @m33_49) (And.intro @m33_50 (And.intro @m33_51 @m33_52))) (And.intro (And.intro @m33_53 @m33_56) (And.intro @m33_57 (And.intro @m33_58 @m33_59)))
def own_k30_0 := And.intro (And.intro (And.intro (And.intro @m30_0 @m30_1) (And.intro @m30_2 @m30_5)) (And.intro (And.intro @m30_6 @m30_9) (And.intro @m30_10 @m30_11))) (And.intro (And.intro (And.intro @m30_14 @m30_15) (And.intro @m30_16 @m30_17)) (And.intro (And.intro @m30_18 @m30_19) (And.intro @m30_20 @m30_23)))
def own_k30_1 := And.intro (And.intro (And.intro (And.intro @m30_24 @m30_25u) (And.intro @m30_26 @m30_27)) (And.intro (And.intro @m30_30 @m30_31) (And.intro @m30_32 @m30_35))) (And.intro (And.intro (And.intro @m30_36 @m30_39) (And.intro @m30_40 @m30_41)) (And.intro (And.intro @m30_42 @m30_45) (And.intro @m30_46 @m30_47)))
def own_k30_2 := And.intro (And.intro (And.intro (And.intro @m30_48 @m30_49) (And.intro @m30_50 @m30_51)) (And.intro (And.intro @m30_52 @m30_55) (And.intro @m30_56 @m30_57))) (And.intro (And.intro (And.intro @m30_58 @m30_59) (And.intro @m30_60 @m30_61)) (And.intro (And.intro @m30_62 @m30_65) (And.intro @m30_66 @m30_69)))
def own_k30_3 := And.intro (And.intro (And.intro @m30_70 (And.intro @m30_71 @m30_72)) (And.intro (And.intro @m30_73 @m30_76) (And.intro @m30_77 @m30_78))) (And.intro (And.intro (And.intro @m30_79 @m30_82) (And.intro @m30_83 @m30_84)) (And.intro (And.intro @m30_87 @m30_88) (And.intro @m30_89 @m30_92)))
def own_k32_0 := And.intro (And.intro (And.intro (And.intro @m32_3 @m32_4) (And.intro @m32_7 @m32_10)) (And.intro (And.intro @m32_11 @m32_14) (And.intro @m32_15 @m32_16))) (And.intro (And.intro (And.intro @m32_19 @m32_20) (And.intro @m32_23 @m32_24)) (And.intro (And.intro @m32_25 @m32_26) (And.intro @m32_29 @m32_30)))
def own_k32_1 := And.intro (And.intro (And.intro (And.intro @m32_31 @m32_32) (And.intro @m32_33 @m32_36)) (And.intro (And.intro @m32_39 @m32_40) (And.intro @m32_41 @m32_44))) (And.intro (And.intro (And.intro @m32_45 @m32_46) (And.intro @m32_49 @m32_50)) (And.intro (And.intro @m32_53 @m32_54) (And.intro @m32_55 @m32_56)))
def own_k32_2 := And.intro (And.intro @m32_57 (And.intro @m32_60 @m32_61)) (And.intro (And.intro @m32_62 @m32_63) (And.intro @m32_66 @m32_69))
def own_k26_0 := And.intro (And.intro (And.intro (And.intro @m26_0 @m26_1) (And.intro @m26_4 @m26_5)) (And.intro (And.intro @m26_8u @m26_9) (And.intro @m26_10 @m26_13))) (And.intro (And.intro (And.intro @m26_14 @m26_15) (And.intro @m26_18 @m26_19)) (And.intro (And.intro @m26_20 @m26_23) (And.intro @m26_24 @m26_25)))
def own_k26_1 := And.intro @m26_28 (And.intro @m26_29 @m26_32)
def own_k25_0 := And.intro (And.intro (And.intro @m25_0 (And.intro @m25_1u @m25_2)) (And.intro (And.intro @m25_3 @m25_6) (And.intro @m25_7i @m25_8))) (And.intro (And.intro (And.intro @m25_9 @m25_12) (And.intro @m25_15 @m25_18i)) (And.intro (And.intro @m25_19 @m25_20u) (And.intro @m25_21 @m25_22i)))
def own_k25_1 := And.intro (And.intro (And.intro @m25_24 (And.intro @m25_25 @m25_28)) (And.intro (And.intro @m25_29 @m25_32) (And.intro @m25_33 @m25_36))) (And.intro (And.intro @m25_39 (And.intro @m25_42 @m25_43)) (And.intro (And.intro @m25_46 @m25_49) (And.intro @m25_52 @m25_53)))
def own_k3_0 := And.intro @m3_0 (And.intro @m3_1 @m3_4)
def own_k4_0 := And.intro @m4_0 (And.intro @m4_1 @m4_4)
def own_k5_0 := And.intro @m5_0 (And.intro @m5_1 @m5_4)
def own_k6_0 := And.intro @m6_0 (And.intro @m6_1 @m6_4)
def own_k7_0 := And.intro @m7_0 (And.intro @m7_1 @m7_4)
def own_k8_0 := And.intro (And.intro (And.intro @m8_0 @m8_1) (And.intro @m8_2 (And.intro @m8_5 @m8_8))) (And.intro (And.intro @m8_9 (And.intro @m8_10 @m8_11)) (And.intro @m8_14 (And.intro @m8_15 @m8_16)))
def own_k9_0 := And.intro (And.intro (And.intro @m9_0 @m9_1) (And.intro @m9_4 (And.intro @m9_5 @m9_6))) (And.intro (And.intro @m9_9 @m9_12) (And.intro @m9_13 (And.intro @m9_16 @m9_17)))
def own_k10_0 := And.intro (And.intro (And.intro @m10_0 @m10_1) (And.intro @m10_2 (And.intro @m10_5 @m10_8))) (And.intro (And.intro @m10_9 (And.intro @m10_10 @m10_11)) (And.intro @m10_14 (And.intro @m10_15 @m10_16)))
def own_k11_0 := And.intro (And.intro (And.intro @m11_0 (And.intro @m11_1 @m11_4)) (And.intro @m11_5 (And.intro @m11_6 @m11_9))) (And.intro (And.intro @m11_10 (And.intro @m11_11 @m11_12)) (And.intro @m11_15 (And.intro @m11_16 @m11_17)))
def own_k34_0 := And.intro (And.intro (And.intro @m34_0 @m34_1) (And.intro @m34_3 @m34_4)) (And.intro (And.intro @m34_5 @m34_6) (And.intro @m34_9 (And.intro @m34_10 @m34_11)))
def own_k36_0 := And.intro (And.intro (And.intro (And.intro @m36_0 @m36_1) (And.intro @m36_4 @m36_6)) (And.intro (And.intro @m36_7 @m36_8) (And.intro @m36_9 @m36_12))) (And.intro (And.intro (And.intro @m36_13 @m36_14) (And.intro @m36_15 @m36_16)) (And.intro (And.intro @m36_18 @m36_19) (And.intro @m36_20 @m36_21)))
def own_k0_0 := And.intro (And.intro (And.intro (And.intro @m0_0 @m0_1) (And.intro @m0_4 @m0_5)) (And.intro (And.intro @m0_12 @m0_13) (And.intro @m0_20 @m0_21))) (And.intro (And.intro (And.intro @m0_28 @m0_29) (And.intro @m0_36 @m0_37)) (And.intro (And.intro @m0_44 @m0_45) (And.intro @m0_52 @m0_53)))
def own_k0_1 := And.intro (And.intro (And.intro (And.intro @m0_60 @m0_61) (And.intro @m0_68 @m0_69)) (And.intro (And.intro @m0_75 @m0_76) (And.intro @m0_82 @m0_83))) (And.intro (And.intro (And.intro @m0_89 @m0_90) (And.intro @m0_96 @m0_97)) (And.intro (And.intro @m0_104 @m0_105) (And.intro @m0_112 @m0_113)))
def own_k0_2 := And.intro (And.intro (And.intro (And.intro @m0_120 @m0_121) (And.intro @m0_128 @m0_129)) (And.intro (And.intro @m0_136 @m0_137) (And.intro @m0_144 @m0_145))) (And.intro (And.intro (And.intro @m0_152 @m0_153) (And.intro @m0_160 @m0_161u)) (And.intro (And.intro @m0_162 @m0_163) (And.intro @m0_164 @m0_167)))
def own_k0_3 := And.intro (And.intro (And.intro (And.intro @m0_168i @m0_169) (And.intro @m0_170 @m0_172)) (And.intro (And.intro @m0_175 @m0_177i) (And.intro @m0_178 @m0_179))) (And.intro (And.intro (And.intro @m0_180 @m0_183) (And.intro @m0_184 @m0_185)) (And.intro (And.intro @m0_188 @m0_189) (And.intro @m0_190 @m0_193)))
def own_k0_4 := And.intro (And.intro @m0_194 (And.intro @m0_195 @m0_198)) (And.intro (And.intro @m0_199 @m0_200) (And.intro @m0_203 @m0_204u))
def own_k0_5 := And.intro (And.intro (And.intro @m0_206 (And.intro @m0_207 @m0_210)) (And.intro @m0_211 (And.intro @m0_214 @m0_215))) (And.intro (And.intro @m0_216 (And.intro @m0_217 @m0_220)) (And.intro @m0_223 (And.intro @m0_224 @m0_227)))
def own_k37_32 := And.intro (And.intro (And.intro (And.intro @m37_773 @m37_774) (And.intro @m37_776i @m37_778)) (And.intro (And.intro @m37_779 @m37_782) (And.intro @m37_784 @m37_787))) (And.intro (And.intro (And.intro @m37_788 @m37_791) (And.intro @m37_793 @m37_796)) (And.intro (And.intro @m37_797 @m37_800) (And.intro @m37_802 @m37_805)))
def own_k37_33 := And.intro (And.intro (And.intro (And.intro @m37_806 @m37_809) (And.intro @m37_811 @m37_814)) (And.intro (And.intro @m37_815 @m37_816) (And.intro @m37_817 @m37_819))) (And.intro (And.intro (And.intro @m37_822 @m37_823) (And.intro @m37_826 @m37_827)) (And.intro (And.intro @m37_829 @m37_832) (And.intro @m37_833 @m37_836)))
def own_k37_34 := And.intro (And.intro (And.intro @m37_837 @m37_838) (And.intro @m37_841 (And.intro @m37_842 @m37_845))) (And.intro (And.intro @m37_846 (And.intro @m37_847 @m37_848u)) (And.intro @m37_848i (And.intro @m37_848r @m37_848g)))
def own_k37_11 := And.intro (And.intro (And.intro (And.intro @m37_205 @m37_206i) (And.intro @m37_208 @m37_211)) (And.intro (And.intro @m37_213 @m37_214) (And.intro @m37_217 @m37_219))) (And.intro (And.intro (And.intro @m37_222 @m37_225) (And.intro @m37_227 @m37_228)) (And.intro (And.intro @m37_231 @m37_233) (And.intro @m37_235 @m37_238)))
def own_k37_12 := And.intro (And.intro (And.intro (And.intro @m37_240 @m37_242) (And.intro @m37_245 @m37_247i)) (And.intro (And.intro @m37_249 @m37_252) (And.intro @m37_254 @m37_255))) (And.intro (And.intro (And.intro @m37_258 @m37_260) (And.intro @m37_262 @m37_263)) (And.intro (And.intro @m37_264 @m37_265) (And.intro @m37_266 @m37_267)))
def own_k37_14 := And.intro (And.intro (And.intro (And.intro @m37_296 @m37_297) (And.intro @m37_299 @m37_302)) (And.intro (And.intro @m37_303i @m37_305) (And.intro @m37_307i @m37_309))) (And.intro (And.intro (And.intro @m37_311i @m37_313) (And.intro @m37_315i @m37_317)) (And.intro (And.intro @m37_318 @m37_320) (And.intro @m37_321 @m37_323)))
def own_k37_5 := And.intro (And.intro (And.intro (And.intro @m37_103 @m37_104) (And.intro @m37_106 @m37_107)) (And.intro (And.intro @m37_108 @m37_108p) (And.intro @m37_109u @m37_109i))) (And.intro (And.intro (And.intro @m37_109r @m37_109g) (And.intro @m37_111 @m37_112)) (And.intro (And.intro @m37_114 @m37_115) (And.intro @m37_116 @m37_116p)))
def own_k37_6 := And.intro (And.intro (And.intro (And.intro @m37_117u @m37_117i) (And.intro @m37_117r @m37_117g)) (And.intro (And.intro @m37_119 @m37_120) (And.intro @m37_122 @m37_123))) (And.intro (And.intro (And.intro @m37_124 @m37_124p) (And.intro @m37_125u @m37_125i)) (And.intro (And.intro @m37_125r @m37_125g) (And.intro @m37_127 @m37_128)))
def own_k37_7 := And.intro (And.intro (And.intro (And.intro @m37_130 @m37_131) (And.intro @m37_132 @m37_132p)) (And.intro (And.intro @m37_133u @m37_133i) (And.intro @m37_133r @m37_133g))) (And.intro (And.intro (And.intro @m37_135 @m37_137) (And.intro @m37_140 @m37_142)) (And.intro (And.intro @m37_144 @m37_145) (And.intro @m37_148 @m37_150)))
def own_k37_8 := And.intro (And.intro (And.intro (And.intro @m37_151 @m37_152) (And.intro @m37_155 @m37_156)) (And.intro (And.intro @m37_159 @m37_161) (And.intro @m37_163 @m37_164))) (And.intro (And.intro (And.intro @m37_165 @m37_166) (And.intro @m37_167 @m37_168u)) (And.intro (And.intro @m37_168i @m37_168r) (And.intro @m37_168g @m37_170)))
def own_k37_9 := And.intro (And.intro (And.intro (And.intro @m37_172 @m37_174) (And.intro @m37_176 @m37_177)) (And.intro (And.intro @m37_178u @m37_178i) (And.intro @m37_178r @m37_178g))) (And.intro (And.intro (And.intro @m37_180 @m37_181) (And.intro @m37_183 @m37_185)) (And.intro (And.intro @m37_186 @m37_187u) (And.intro @m37_187i @m37_187r)))
def own_k37_18 := And.intro (And.intro (And.intro (And.intro @m37_392 @m37_395) (And.intro @m37_397 @m37_399)) (And.intro (And.intro @m37_402 @m37_404) (And.intro @m37_406 @m37_408))) (And.intro (And.intro (And.intro @m37_409 @m37_412) (And.intro @m37_414i @m37_416)) (And.intro (And.intro @m37_419 @m37_420) (And.intro @m37_422 @m37_423)))
def own_k37_19 := And.intro (And.intro (And.intro (And.intro @m37_424 @m37_425) (And.intro @m37_427 @m37_428)) (And.intro (And.intro @m37_430 @m37_432) (And.intro @m37_434 @m37_435))) (And.intro (And.intro (And.intro @m37_436 @m37_437) (And.intro @m37_438 @m37_439)) (And.intro (And.intro @m37_442 @m37_444) (And.intro @m37_446 @m37_447)))
def own_k37_15 := And.intro (And.intro (And.intro (And.intro @m37_326 @m37_328) (And.intro @m37_329 @m37_332)) (And.intro (And.intro @m37_334 @m37_336) (And.intro @m37_337 @m37_339))) (And.intro (And.intro (And.intro @m37_342 @m37_343) (And.intro @m37_346 @m37_348)) (And.intro (And.intro @m37_349 @m37_350u) (And.intro @m37_350i @m37_350r)))
def own_k37_27 := And.intro (And.intro (And.intro (And.intro @m37_630 @m37_631) (And.intro @m37_634 @m37_636)) (And.intro (And.intro @m37_638 @m37_639) (And.intro @m37_640 @m37_641))) (And.intro (And.intro (And.intro @m37_642 @m37_643) (And.intro @m37_646 @m37_648)) (And.intro (And.intro @m37_650 @m37_653) (And.intro @m37_655 @m37_658)))
def own_k37_22 := And.intro (And.intro (And.intro (And.intro @m37_507i @m37_507r) (And.intro @m37_507g @m37_509)) (And.intro (And.intro @m37_511 @m37_514) (And.intro @m37_516 @m37_518))) (And.intro (And.intro (And.intro @m37_521 @m37_522) (And.intro @m37_523 @m37_524i)) (And.intro (And.intro @m37_526 @m37_528) (And.intro @m37_530 @m37_532)))
def own_k37_23 := And.intro (And.intro (And.intro (And.intro @m37_535 @m37_536) (And.intro @m37_538 @m37_539u)) (And.intro (And.intro @m37_539i @m37_539r) (And.intro @m37_539g @m37_541))) (And.intro (And.intro (And.intro @m37_543 @m37_546) (And.intro @m37_549 @m37_551)) (And.intro (And.intro @m37_553 @m37_556) (And.intro @m37_557 @m37_558)))
def own_k37_24 := And.intro (And.intro (And.intro (And.intro @m37_559i @m37_561) (And.intro @m37_564 @m37_566)) (And.intro (And.intro @m37_568 @m37_571) (And.intro @m37_572 @m37_575i))) (And.intro (And.intro (And.intro @m37_577 @m37_579) (And.intro @m37_582 @m37_584)) (And.intro (And.intro @m37_586 @m37_589) (And.intro @m37_590 @m37_591)))
def own_k37_25 := And.intro (And.intro (And.intro (And.intro @m37_593 @m37_595) (And.intro @m37_598 @m37_599)) (And.intro (And.intro @m37_600 @m37_603) (And.intro @m37_605i @m37_607))) (And.intro (And.intro (And.intro @m37_608i @m37_610) (And.intro @m37_611i @m37_613)) (And.intro (And.intro @m37_614i @m37_616) (And.intro @m37_618 @m37_619)))
def own_k37_26 := And.intro (And.intro (And.intro @m37_621 @m37_622) (And.intro @m37_623 @m37_625)) (And.intro (And.intro @m37_626u @m37_626i) (And.intro @m37_626r @m37_626g))
def own_k37_29 := And.intro (And.intro (And.intro (And.intro @m37_688 @m37_690) (And.intro @m37_693 @m37_694)) (And.intro (And.intro @m37_697 @m37_699u) (And.intro @m37_699i @m37_699r))) (And.intro (And.intro (And.intro @m37_699g @m37_701) (And.intro @m37_703 @m37_705)) (And.intro (And.intro @m37_707 @m37_708) (And.intro @m37_711 @m37_713)))
def own_k37_1 := And.intro (And.intro (And.intro (And.intro @m37_22 @m37_23) (And.intro @m37_24 @m37_27)) (And.intro (And.intro @m37_28 @m37_31) (And.intro @m37_32 @m37_34))) (And.intro (And.intro (And.intro @m37_37 @m37_39) (And.intro @m37_42 @m37_43u)) (And.intro (And.intro @m37_44 @m37_45u) (And.intro @m37_47 @m37_48u)))
def own_k37_2 := And.intro (And.intro (And.intro (And.intro @m37_50 @m37_51u) (And.intro @m37_53 @m37_54u)) (And.intro (And.intro @m37_56 @m37_57u) (And.intro @m37_59 @m37_60u))) (And.intro (And.intro (And.intro @m37_62 @m37_63u) (And.intro @m37_65 @m37_66u)) (And.intro (And.intro @m37_68 @m37_69u) (And.intro @m37_71 @m37_72)))
def own_k37_3 := And.intro (And.intro (And.intro @m37_74 @m37_75) (And.intro @m37_77 @m37_78)) (And.intro (And.intro @m37_80 @m37_81) (And.intro @m37_83 @m37_84u))
def own_k21_3 := And.intro (And.intro (And.intro (And.intro @m21_62 @m21_63) (And.intro @m21_66 @m21_68)) (And.intro (And.intro @m21_69 @m21_71) (And.intro @m21_74 @m21_76))) (And.intro (And.intro (And.intro @m21_77 @m21_80) (And.intro @m21_82i @m21_83)) (And.intro (And.intro @m21_86 @m21_89) (And.intro @m21_92 @m21_95)))
def own_k37_0 := And.intro (And.intro (And.intro (And.intro @m37_0 @m37_1) (And.intro @m37_1p @m37_2)) (And.intro (And.intro @m37_5 @m37_6) (And.intro @m37_7 @m37_7p))) (And.intro (And.intro (And.intro @m37_8 @m37_11) (And.intro @m37_12u @m37_13)) (And.intro (And.intro @m37_16 @m37_17) (And.intro @m37_18 @m37_21u)))
def own_k37_4 := And.intro (And.intro (And.intro (And.intro @m37_88 @m37_89) (And.intro @m37_90 @m37_91)) (And.intro (And.intro @m37_91p @m37_92) (And.intro @m37_95 @m37_96))) (And.intro (And.intro (And.intro @m37_98 @m37_98p) (And.intro @m37_99 @m37_100)) (And.intro (And.intro @m37_101u @m37_101i) (And.intro @m37_101r @m37_101g)))
def own_k37_10 := And.intro (And.intro (And.intro (And.intro @m37_187g @m37_189) (And.intro @m37_191 @m37_193)) (And.intro (And.intro @m37_194u @m37_194i) (And.intro @m37_194r @m37_194g))) (And.intro (And.intro (And.intro @m37_196 @m37_197u) (And.intro @m37_197i @m37_197r)) (And.intro (And.intro @m37_197g @m37_199) (And.intro @m37_201 @m37_202)))
def own_k37_13 := And.intro (And.intro (And.intro (And.intro @m37_270 @m37_272i) (And.intro @m37_274 @m37_275)) (And.intro (And.intro @m37_277 @m37_279) (And.intro @m37_281 @m37_283))) (And.intro (And.intro (And.intro @m37_286u @m37_286i) (And.intro @m37_286r @m37_286g)) (And.intro (And.intro @m37_288 @m37_290) (And.intro @m37_292 @m37_295)))
def own_k37_16 := And.intro (And.intro (And.intro (And.intro @m37_350g @m37_352) (And.intro @m37_354 @m37_356)) (And.intro (And.intro @m37_357u @m37_357i) (And.intro @m37_357r @m37_357g))) (And.intro (And.intro (And.intro @m37_359 @m37_361) (And.intro @m37_362 @m37_363u)) (And.intro (And.intro @m37_363i @m37_363r) (And.intro @m37_363g @m37_365)))
def own_k37_17 := And.intro (And.intro (And.intro (And.intro @m37_366u @m37_366i) (And.intro @m37_366r @m37_366g)) (And.intro (And.intro @m37_368 @m37_369) (And.intro @m37_371 @m37_373))) (And.intro (And.intro (And.intro @m37_376 @m37_378i) (And.intro @m37_380 @m37_383)) (And.intro (And.intro @m37_385 @m37_386) (And.intro @m37_389 @m37_391)))
def own_k37_20 := And.intro (And.intro (And.intro (And.intro @m37_448 @m37_449) (And.intro @m37_452 @m37_454i)) (And.intro (And.intro @m37_456 @m37_457) (And.intro @m37_459 @m37_461))) (And.intro (And.intro (And.intro @m37_463 @m37_466) (And.intro @m37_468 @m37_471)) (And.intro (And.intro @m37_472 @m37_473) (And.intro @m37_475 @m37_478)))
def own_k37_21 := And.intro (And.intro (And.intro (And.intro @m37_480 @m37_481) (And.intro @m37_483 @m37_484)) (And.intro (And.intro @m37_485 @m37_487) (And.intro @m37_489 @m37_491))) (And.intro (And.intro (And.intro @m37_492 @m37_494) (And.intro @m37_497 @m37_499)) (And.intro (And.intro @m37_500 @m37_503) (And.intro @m37_504 @m37_507u)))
def own_k37_28 := And.intro (And.intro (And.intro (And.intro @m37_660 @m37_662) (And.intro @m37_664 @m37_667)) (And.intro (And.intro @m37_669 @m37_672) (And.intro @m37_675 @m37_678))) (And.intro (And.intro (And.intro @m37_680 @m37_682) (And.intro @m37_683 @m37_685)) (And.intro (And.intro @m37_686u @m37_686i) (And.intro @m37_686r @m37_686g)))
def own_k37_30 := And.intro (And.intro (And.intro (And.intro @m37_716 @m37_718) (And.intro @m37_720 @m37_721u)) (And.intro (And.intro @m37_721i @m37_721r) (And.intro @m37_721g @m37_723))) (And.intro (And.intro (And.intro @m37_724 @m37_726) (And.intro @m37_729 @m37_731)) (And.intro (And.intro @m37_734 @m37_735) (And.intro @m37_736 @m37_738)))
def own_k37_31 := And.intro (And.intro (And.intro (And.intro @m37_740 @m37_741i) (And.intro @m37_743 @m37_744)) (And.intro (And.intro @m37_747i @m37_749) (And.intro @m37_751 @m37_752))) (And.intro (And.intro (And.intro @m37_755 @m37_757) (And.intro @m37_759 @m37_762)) (And.intro (And.intro @m37_765 @m37_767) (And.intro @m37_769 @m37_772)))
def own_k37_35 := And.intro (And.intro (And.intro (And.intro @m37_852 @m37_853) (And.intro @m37_856 @m37_857)) (And.intro (And.intro @m37_859 @m37_862) (And.intro @m37_864 @m37_866))) (And.intro (And.intro (And.intro @m37_869 @m37_872) (And.intro @m37_873 @m37_874)) (And.intro (And.intro @m37_877 @m37_880) (And.intro @m37_883 @m37_886)))
def LN (A : Nat → List Int32) : Prop := ∀ i, (A i).length = (A0 i).length
theorem LN_ou {A : Nat → List Int32} {j : Nat} {l : List Int32} (h : LN A) (hl : l.length = (A0 j).length) : LN (ou A j l) := len_ou h hl
theorem in_lt {A : Nat → List Int32} {k : Nat} {j n : Int32} (h : LN A) (hk : ((A0 k).length : Int) = n.toInt) (h0 : ¬ j < 0) (h1 : j < n) : inB j (A k) := inB_lt (by rw [h k]; exact hk) h0 h1
theorem z0 : ((A0 0).length : Int) = (9 : Int32).toInt := by rw [A0l_0]; rfl
theorem z1 : ((A0 1).length : Int) = (9 : Int32).toInt := by rw [A0l_1]; rfl
theorem z2 : ((A0 2).length : Int) = (9 : Int32).toInt := by rw [A0l_2]; rfl
theorem z3 : ((A0 3).length : Int) = (9 : Int32).toInt := by rw [A0l_3]; rfl
theorem z4 : ((A0 4).length : Int) = (36 : Int32).toInt := by rw [A0l_4]; rfl
theorem z5 : ((A0 5).length : Int) = (36 : Int32).toInt := by rw [A0l_5]; rfl
theorem z6 : ((A0 6).length : Int) = (9 : Int32).toInt := by rw [A0l_6]; rfl
theorem z7 : ((A0 7).length : Int) = (9 : Int32).toInt := by rw [A0l_7]; rfl
theorem z8 : ((A0 8).length : Int) = (4 : Int32).toInt := by rw [A0l_8]; rfl
theorem z9 : ((A0 9).length : Int) = (4 : Int32).toInt := by rw [A0l_9]; rfl
theorem z10 : ((A0 10).length : Int) = (4 : Int32).toInt := by rw [A0l_10]; rfl
theorem z11 : ((A0 11).length : Int) = (4 : Int32).toInt := by rw [A0l_11]; rfl
theorem z12 : ((A0 12).length : Int) = (9 : Int32).toInt := by rw [A0l_12]; rfl
theorem z13 : ((A0 13).length : Int) = (9 : Int32).toInt := by rw [A0l_13]; rfl
theorem z14 : ((A0 14).length : Int) = (9 : Int32).toInt := by rw [A0l_14]; rfl
theorem z15 : ((A0 15).length : Int) = (9 : Int32).toInt := by rw [A0l_15]; rfl
theorem z16 : ((A0 16).length : Int) = (9 : Int32).toInt := by rw [A0l_16]; rfl
theorem z17 : ((A0 17).length : Int) = (9 : Int32).toInt := by rw [A0l_17]; rfl
theorem z18 : ((A0 18).length : Int) = (9 : Int32).toInt := by rw [A0l_18]; rfl
theorem z19 : ((A0 19).length : Int) = (9 : Int32).toInt := by rw [A0l_19]; rfl
theorem i_4 : (4 : Int32).toInt = 4 := rfl
theorem i_5 : (5 : Int32).toInt = 5 := rfl
theorem i_8 : (8 : Int32).toInt = 8 := rfl
theorem i_9 : (9 : Int32).toInt = 9 := rfl
theorem i_36 : (36 : Int32).toInt = 36 := rfl
theorem i_64 : (64 : Int32).toInt = 64 := rfl
theorem i_842 : (842 : Int32).toInt = 842 := rfl
theorem i_840 : (840 : Int32).toInt = 840 := rfl
theorem i_61 : (61 : Int32).toInt = 61 := rfl
theorem lt9 {j m : Int32} (h : j < m) (hm : m.toInt ≤ 9) : j < 9 := by
  rw [lt_i] at *
  rw [i_9]
  omega
theorem idx4 {j r : Int32} (j0 : ¬ j < 0) (j1 : j < 9) (r0 : ¬ r < 0) (r1 : r < 4) : ¬ j * 4 + r < 0 ∧ j * 4 + r < 36 := by
  rw [nn_i] at *
  rw [lt_i, i_9] at j1
  rw [lt_i, i_4] at r1
  have e1 : (j * 4).toInt = j.toInt * 4 := by
    have := mul_i (a := j) (b := 4) (by rw [i_4]; omega) (by rw [i_4]; omega)
    rw [this, i_4]
  have e2 : (j * 4 + r).toInt = j.toInt * 4 + r.toInt := by
    have := add_i (a := j * 4) (b := r) (by rw [e1]; omega) (by rw [e1]; omega)
    rw [this, e1]
  rw [lt_i, e2, i_36]
  omega
theorem ne0_of {g : Int32} (h : ¬ g < 1) : ¬ g = 0 := fun e => by subst e; exact absurd h (by decide)
theorem ne0_pos {g : Int32} (h : 0 < g) : ¬ g = 0 := fun e => by subst e; exact absurd h (by decide)
abbrev GS (s : Nat → Int32) (A : Nat → List Int32) : Prop := LN A ∧ 0 ≤ (s 1).toInt ∧ (s 1).toInt ≤ 8
section Gate
variable {s : Nat → Int32} {A : Nat → List Int32}
def GC : Nat → Int32 → Int32 → Int32
  | 0, x, _ => x
  | n + 1, x, y => if y = 0 then x else GC n y (x % y)
theorem GC_z (n : Nat) (x : Int32) : GC (n + 1) x 0 = x := by rw [GC, if_pos rfl]
theorem GC_s {n : Nat} {x y : Int32} (h : ¬ y = 0) : GC (n + 1) x y = GC n y (x % y) := by rw [GC, if_neg h]
theorem md_i (x y : Int32) : (x % y).toInt = x.toInt.tmod y.toInt := Int32.toInt_mod _ _
theorem ne_pos {y : Int32} (h : ¬ y = 0) (h0 : 0 ≤ y.toInt) : 1 ≤ y.toInt := by
  have : y.toInt ≠ 0 := fun q => h (Int32.toInt_inj.mp q)
  omega
theorem GC_p : ∀ (n : Nat) (x y : Int32), 1 ≤ x.toInt → 0 ≤ y.toInt → 1 ≤ (GC n x y).toInt ∧ (y.toInt < x.toInt → (GC n x y).toInt ≤ x.toInt) := by
  intro n
  induction n with
  | zero => intro x y hx _; exact ⟨hx, fun _ => Int.le_refl _⟩
  | succ n ih =>
    intro x y hx hy
    by_cases z : y = 0
    · rw [z, GC_z]
      exact ⟨hx, fun _ => Int.le_refl _⟩
    · have y1 := ne_pos z hy
      have r0 : 0 ≤ (x % y).toInt := by rw [md_i]; exact Int.tmod_nonneg _ (by omega)
      have r1 : (x % y).toInt < y.toInt := by rw [md_i]; exact Int.tmod_lt_of_pos _ (by omega)
      have q := ih y (x % y) y1 r0
      rw [GC_s z]
      refine ⟨q.1, fun hlt => ?_⟩
      have := q.2 r1
      omega
theorem tmod_le {a c : Int} (h : 0 ≤ a) (hc : 0 < c) : a.tmod c ≤ a := by
  by_cases q : a < c
  · rw [Int.tmod_eq_of_lt h q]
    omega
  · have := Int.tmod_lt_of_pos a hc
    omega
theorem GC_le {h t : Int32} (h1 : 1 ≤ h.toInt) (t1 : 1 ≤ t.toInt) : 1 ≤ (GC 64 h t).toInt ∧ (GC 64 h t).toInt ≤ h.toInt := by
  have tn : ¬ t = 0 := fun q => by rw [q, i_0] at t1; omega
  have r0 : 0 ≤ (h % t).toInt := by rw [md_i]; exact Int.tmod_nonneg _ (by omega)
  have r1 : (h % t).toInt < t.toInt := by rw [md_i]; exact Int.tmod_lt_of_pos _ (by omega)
  have r2 : (h % t).toInt ≤ h.toInt := by rw [md_i]; exact tmod_le (by omega) (by omega)
  have e : GC 64 h t = GC 63 t (h % t) := GC_s tn
  rw [e]
  by_cases z : h % t = 0
  · have e2 : GC 63 t (h % t) = t := by rw [z]; exact GC_z 62 t
    rw [e2]
    refine ⟨t1, ?_⟩
    by_cases q : h.toInt < t.toInt
    · have w := md_i h t
      rw [z, i_0, Int.tmod_eq_of_lt (by omega) q] at w
      omega
    · omega
  · have e2 : GC 63 t (h % t) = GC 62 (h % t) (t % (h % t)) := GC_s z
    have p1 := ne_pos z r0
    have q := GC_p 62 (h % t) (t % (h % t)) p1 (by rw [md_i]; exact Int.tmod_nonneg _ (by omega))
    have q2 := q.2 (by rw [md_i]; exact Int.tmod_lt_of_pos _ (by omega))
    rw [e2]
    exact ⟨q.1, by omega⟩
theorem lc_bd {h t g : Int32} (h1 : 1 ≤ h.toInt) (h2 : h.toInt ≤ 840) (t1 : 1 ≤ t.toInt) (t2 : t.toInt ≤ 840) (g1 : 1 ≤ g.toInt) (g2 : g.toInt ≤ h.toInt) : 1 ≤ (h / g * t).toInt := by
  have e : (h / g).toInt = h.toInt / g.toInt := by
    rw [Int32.toInt_div, Int.tdiv_eq_ediv_of_nonneg (by omega)]
    have a := Int.ediv_le_self g.toInt (show 0 ≤ h.toInt by omega)
    have c := Int.ediv_nonneg (show 0 ≤ h.toInt by omega) (show 0 ≤ g.toInt by omega)
    have e : ((2 ^ 32 : Nat) : Int) = 4294967296 := rfl
    exact Int.bmod_eq_of_le (by rw [e]; omega) (by rw [e]; omega)
  have a := Int.ediv_le_self g.toInt (show 0 ≤ h.toInt by omega)
  have c : 1 ≤ h.toInt / g.toInt := Int.le_ediv_of_mul_le (by omega) (by omega)
  have u1 : (h.toInt / g.toInt) * t.toInt ≤ 840 * 840 := Int.mul_le_mul (by omega) t2 (by omega) (by decide)
  have u2 : 0 < (h.toInt / g.toInt) * t.toInt := Int.mul_pos (by omega) (by omega)
  have m := mul_i (a := h / g) (b := t) (by rw [e]; omega) (by rw [e]; omega)
  rw [m, e]
  omega
set_option maxRecDepth 1000000 in
set_option maxHeartbeats 20000000 in
theorem g17a {a c : Int32} : ∀ (n : Nat) (k x y : Int32) (k6 : Slot), okS k6 → ¬ k < 0 → k.toInt + n = 64 → ∀ (b : Nat) (pre post : AHeap) (Q : Option Value → AHeap → Prop), Q (some (.int (GC n x y))) (put (b + 1) pre s A post) → M17 8 [.val (.ref (b + 1)), .val (.int a), .val (.int c), .val (.int x), .val (.int y), .val (.int k), k6] [] (put (b + 1) pre s A post) Q := by
  intro n
  induction n with
  | zero =>
    intro k x y k6 o6 h0 e b pre post Q hq
    have hge : ¬ k < 64 := by rw [lt_i, i_64]; omega
    rw [m17_8]
    simp [hge, own_k17_0, own_k17_1, own_k17_2, nb0, nb1, ou_a, Option.toList_some, Option.toList_none, List.nil_append, List.cons_append]
    exact hq
  | succ n ih =>
    intro k x y k6 o6 h0 e b pre post Q hq
    have hlt : k < 64 := by rw [lt_i, i_64]; omega
    by_cases y0 : y = 0
    · rw [y0, GC_z] at hq
      rw [m17_8]
      simp [hlt, y0, own_k17_0, own_k17_1, own_k17_2, nb0, nb1, ou_a, Option.toList_some, Option.toList_none, List.nil_append, List.cons_append]
      rw [y0] at *
      exact hq
    · rw [GC_s y0] at hq
      rw [m17_8]
      simp [hlt, y0, o6, own_k17_0, own_k17_1, own_k17_2, nb0, nb1, ou_a, Option.toList_some, Option.toList_none, List.nil_append, List.cons_append]
      exact ih (k + 1) y (x % y) (.val (.int (x % y))) (okS_i _) (succ_nn h0 (by omega)) (by rw [add1_i (by omega)]; omega) b pre post Q hq
theorem g17 (a c : Int32) : ∀ (b : Nat) (pre post : AHeap) (Q : Option Value → AHeap → Prop), Q (some (.int (GC 64 a c))) (put (b + 1) pre s A post) → M17 0 [.val (.ref (b + 1)), .val (.int a), .val (.int c), .unset, .unset, .unset, .unset] [] (put (b + 1) pre s A post) Q := by
  intro b pre post Q hq
  simp [own_k17_0, own_k17_1, own_k17_2, nb0, nb1, ou_a, Option.toList_some, Option.toList_none, List.nil_append, List.cons_append]
  exact g17a (a := a) (c := c) 64 0 a c .unset okS_u (by decide) rfl b pre post Q hq
theorem g16 (a c : Int32) (a1 : 1 ≤ a.toInt) (c1 : 1 ≤ c.toInt) : ∀ (b : Nat) (pre post : AHeap) (Q : Option Value → AHeap → Prop), Q (some (.int (a / GC 64 a c * c))) (put (b + 1) pre s A post) → M16 0 [.val (.ref (b + 1)), .val (.int a), .val (.int c), .unset] [] (put (b + 1) pre s A post) Q := by
  intro b pre post Q hq
  have g := GC_le a1 c1
  have b1 : ¬ a < 1 := by rw [lt_i, i_1]; omega
  have b2 : ¬ c < 1 := by rw [lt_i, i_1]; omega
  have b3 : ¬ GC 64 a c < 1 := by rw [lt_i, i_1]; omega
  have b4 := ne0_of b3
  simp [b1, b2, own_k16_0, own_k16_1, nb0, nb1, ou_a, Option.toList_some, Option.toList_none, List.nil_append, List.cons_append]
  refine g17 a c b pre post _ ?_
  simp [b3, b4, own_k16_0, own_k16_1, nb0, nb1, ou_a, Option.toList_some, Option.toList_none, List.nil_append, List.cons_append]
  exact hq
set_option maxRecDepth 1000000 in
set_option maxHeartbeats 20000000 in
theorem s35a : ∀ (n : Nat) (k x y : Int32) (k3 : Slot), okS k3 → ¬ k < 0 → k.toInt + n = 64 → ∀ (H : AHeap) (Q : Option Value → AHeap → Prop), Q (some (.int (GC n x y))) H → M35 2 [.val (.int x), .val (.int y), .val (.int k), k3] [] H Q := by
  intro n
  induction n with
  | zero =>
    intro k x y k3 o3 h0 e H Q hq
    have hge : ¬ k < 64 := by rw [lt_i, i_64]; omega
    rw [m35_2]
    simp [hge, m35_0, m35_1u, own_k35_0, own_k35_1, nb0, nb1, ou_a, Option.toList_some, Option.toList_none, List.nil_append, List.cons_append]
    exact hq
  | succ n ih =>
    intro k x y k3 o3 h0 e H Q hq
    have hlt : k < 64 := by rw [lt_i, i_64]; omega
    by_cases y0 : y = 0
    · rw [y0, GC_z] at hq
      rw [m35_2]
      simp [hlt, y0, m35_0, m35_1u, own_k35_0, own_k35_1, nb0, nb1, ou_a, Option.toList_some, Option.toList_none, List.nil_append, List.cons_append]
      exact hq
    · rw [GC_s y0] at hq
      rw [m35_2]
      simp [hlt, y0, o3, m35_0, m35_1u, own_k35_0, own_k35_1, nb0, nb1, ou_a, Option.toList_some, Option.toList_none, List.nil_append, List.cons_append]
      exact ih (k + 1) y (x % y) (.val (.int (x % y))) (okS_i _) (succ_nn h0 (by omega)) (by rw [add1_i (by omega)]; omega) H Q hq
theorem s35 (x y : Int32) (H : AHeap) (Q : Option Value → AHeap → Prop) (hq : Q (some (.int (GC 64 x y))) H) : M35 0 [.val (.int x), .val (.int y), .unset, .unset] [] H Q := by
  simp [m35_0, m35_1u, own_k35_0, own_k35_1, nb0, nb1, ou_a, Option.toList_some, Option.toList_none, List.nil_append, List.cons_append]
  exact s35a 64 0 x y .unset okS_u (by decide) rfl H Q hq
set_option maxRecDepth 1000000 in
set_option maxHeartbeats 20000000 in
theorem g14a (h : LN A) (c1 : (s 1).toInt ≤ 8) {p : Int32} : ∀ (n : Nat) (i : Int32), ¬ i < 0 → i.toInt + n = (s 1).toInt → ∃ v : Int32, ((v = 0 ∧ ∀ j : Int32, i.toInt ≤ j.toInt → j.toInt < (s 1).toInt → ¬ getA (A 3) j = p) ∨ (v = 1 ∧ ∃ j : Int32, i.toInt ≤ j.toInt ∧ j.toInt < (s 1).toInt ∧ getA (A 3) j = p)) ∧ ∀ (b : Nat) (pre post : AHeap) (Q : Option Value → AHeap → Prop), Q (some (.int v)) (put (b + 1) pre s A post) → M14 2 [.val (.ref (b + 1)), .val (.int p), .val (.int i)] [] (put (b + 1) pre s A post) Q := by
  intro n
  induction n with
  | zero =>
    intro i h0 e
    have hge : ¬ i < s 1 := by rw [lt_i]; omega
    refine ⟨0, Or.inl ⟨rfl, fun j p q => absurd q (by omega)⟩, fun b pre post Q hq => ?_⟩
    rw [m14_2]
    simp [hge, m14_0, m14_1u, own_k14_0, nb0, nb1, ou_a, Option.toList_some, Option.toList_none, List.nil_append, List.cons_append]
    exact hq
  | succ n ih =>
    intro i h0 e
    have hlt : i < s 1 := by rw [lt_i]; omega
    have k3 := in_lt h z3 h0 (lt9 hlt (by omega))
    have e1 := add1_i (a := i) (by omega)
    by_cases b1 : getA (A 3) i = p
    · refine ⟨1, Or.inr ⟨rfl, i, Int.le_refl _, by omega, b1⟩, fun b pre post Q hq => ?_⟩
      rw [m14_2]
      simp [hlt, k3, b1, m14_0, m14_1u, own_k14_0, nb0, nb1, ou_a, Option.toList_some, Option.toList_none, List.nil_append, List.cons_append]
      exact hq
    · obtain ⟨v, hd, hv⟩ := ih (i + 1) (succ_nn h0 (by omega)) (by rw [e1]; omega)
      refine ⟨v, ?_, fun b pre post Q hq => ?_⟩
      · rcases hd with ⟨w, hd⟩ | ⟨w, j, j1, j2, j3⟩
        · refine Or.inl ⟨w, fun j p q => ?_⟩
          by_cases z : j.toInt = i.toInt
          · rw [Int32.toInt_inj.mp z]; exact b1
          · exact hd j (by omega) q
        · exact Or.inr ⟨w, j, by omega, j2, j3⟩
      · rw [m14_2]
        simp [hlt, k3, b1, m14_0, m14_1u, own_k14_0, nb0, nb1, ou_a, Option.toList_some, Option.toList_none, List.nil_append, List.cons_append]
        exact hv b pre post Q hq
theorem g14 (h : GS s A) (p : Int32) : ∃ v : Int32, ((v = 0 ∧ ∀ j : Int32, (0 : Int32).toInt ≤ j.toInt → j.toInt < (s 1).toInt → ¬ getA (A 3) j = p) ∨ (v = 1 ∧ ∃ j : Int32, (0 : Int32).toInt ≤ j.toInt ∧ j.toInt < (s 1).toInt ∧ getA (A 3) j = p)) ∧ ∀ (b : Nat) (pre post : AHeap) (Q : Option Value → AHeap → Prop), Q (some (.int v)) (put (b + 1) pre s A post) → M14 0 [.val (.ref (b + 1)), .val (.int p), .unset] [] (put (b + 1) pre s A post) Q := by
  have e := Int.toNat_of_nonneg h.2.1
  obtain ⟨v, hd, hv⟩ := g14a (p := p) h.1 h.2.2 (s 1).toInt.toNat 0 (by decide) (by rw [i_0]; omega)
  refine ⟨v, hd, fun b pre post Q hq => ?_⟩
  simp [m14_0, m14_1u, own_k14_0, nb0, nb1, ou_a, Option.toList_some, Option.toList_none, List.nil_append, List.cons_append]
  exact hv b pre post Q hq
def OV (A : Nat → List Int32) (st ln r : Int32) : Prop := 0 < getA (A 10) r ∧ st < getA (A 9) r + getA (A 10) r ∧ getA (A 9) r < st + ln
set_option maxRecDepth 1000000 in
set_option maxHeartbeats 20000000 in
theorem g15a (h : LN A) {st ln : Int32} : ∀ (n : Nat) (r : Int32) (k4 k5 : Slot), okS k4 → okS k5 → ¬ r < 0 → r.toInt + n = 4 → ∃ v : Int32, ((v = 0 ∧ ∀ j : Int32, r.toInt ≤ j.toInt → j.toInt < 4 → ¬ OV A st ln j) ∨ (v = 1 ∧ ∃ j : Int32, r.toInt ≤ j.toInt ∧ j.toInt < 4 ∧ OV A st ln j)) ∧ ∀ (b : Nat) (pre post : AHeap) (Q : Option Value → AHeap → Prop), Q (some (.int v)) (put (b + 1) pre s A post) → M15 2 [.val (.ref (b + 1)), .val (.int st), .val (.int ln), .val (.int r), k4, k5] [] (put (b + 1) pre s A post) Q := by
  intro n
  induction n with
  | zero =>
    intro r k4 k5 o4 o5 h0 e
    have hge : ¬ r < 4 := by rw [lt_i, i_4]; omega
    refine ⟨0, Or.inl ⟨rfl, fun j p q => absurd q (by omega)⟩, fun b pre post Q hq => ?_⟩
    rw [m15_2]
    simp [hge, m15_0, m15_1u, own_k15_0, own_k15_1, own_k15_2, nb0, nb1, ou_a, Option.toList_some, Option.toList_none, List.nil_append, List.cons_append]
    exact hq
  | succ n ih =>
    intro r k4 k5 o4 o5 h0 e
    have hlt : r < 4 := by rw [lt_i, i_4]; omega
    have q9 := in_lt h z9 h0 hlt
    have q10 := in_lt h z10 h0 hlt
    have n1 := succ_nn h0 (by omega)
    have e2 := add1_i (a := r) (by omega)
    have e1 : (r + 1).toInt + n = 4 := by rw [e2]; omega
    have nx : ∀ v : Int32, ((v = 0 ∧ ∀ j : Int32, (r + 1).toInt ≤ j.toInt → j.toInt < 4 → ¬ OV A st ln j) ∨ (v = 1 ∧ ∃ j : Int32, (r + 1).toInt ≤ j.toInt ∧ j.toInt < 4 ∧ OV A st ln j)) → ¬ OV A st ln r → ((v = 0 ∧ ∀ j : Int32, r.toInt ≤ j.toInt → j.toInt < 4 → ¬ OV A st ln j) ∨ (v = 1 ∧ ∃ j : Int32, r.toInt ≤ j.toInt ∧ j.toInt < 4 ∧ OV A st ln j)) := by
      intro v hd nz
      rcases hd with ⟨w, hd⟩ | ⟨w, j, j1, j2, j3⟩
      · refine Or.inl ⟨w, fun j p q => ?_⟩
        by_cases z : j.toInt = r.toInt
        · rw [Int32.toInt_inj.mp z]; exact nz
        · exact hd j (by omega) q
      · exact Or.inr ⟨w, j, by omega, j2, j3⟩
    by_cases b1 : 0 < getA (A 10) r
    · by_cases b2 : st < getA (A 9) r + getA (A 10) r
      · by_cases b3 : getA (A 9) r < st + ln
        · refine ⟨1, Or.inr ⟨rfl, r, Int.le_refl _, by omega, b1, b2, b3⟩, fun b pre post Q hq => ?_⟩
          rw [m15_2]
          simp [hlt, q9, q10, b1, b2, b3, o4, o5, m15_0, m15_1u, own_k15_0, own_k15_1, own_k15_2, nb0, nb1, ou_a, Option.toList_some, Option.toList_none, List.nil_append, List.cons_append]
          exact hq
        · obtain ⟨v, hd, hv⟩ := ih (r + 1) (.val (.int (getA (A 10) r))) (.val (.int (getA (A 9) r))) (okS_i _) (okS_i _) n1 e1
          refine ⟨v, nx v hd (fun z => b3 z.2.2), fun b pre post Q hq => ?_⟩
          rw [m15_2]
          simp [hlt, q9, q10, b1, b2, b3, o4, o5, m15_0, m15_1u, own_k15_0, own_k15_1, own_k15_2, nb0, nb1, ou_a, Option.toList_some, Option.toList_none, List.nil_append, List.cons_append]
          exact hv b pre post Q hq
      · obtain ⟨v, hd, hv⟩ := ih (r + 1) (.val (.int (getA (A 10) r))) (.val (.int (getA (A 9) r))) (okS_i _) (okS_i _) n1 e1
        refine ⟨v, nx v hd (fun z => b2 z.2.1), fun b pre post Q hq => ?_⟩
        rw [m15_2]
        simp [hlt, q9, q10, b1, b2, o4, o5, m15_0, m15_1u, own_k15_0, own_k15_1, own_k15_2, nb0, nb1, ou_a, Option.toList_some, Option.toList_none, List.nil_append, List.cons_append]
        exact hv b pre post Q hq
    · obtain ⟨v, hd, hv⟩ := ih (r + 1) (.val (.int (getA (A 10) r))) k5 (okS_i _) o5 n1 e1
      refine ⟨v, nx v hd (fun z => b1 z.1), fun b pre post Q hq => ?_⟩
      rw [m15_2]
      simp [hlt, q9, q10, b1, o4, o5, m15_0, m15_1u, own_k15_0, own_k15_1, own_k15_2, nb0, nb1, ou_a, Option.toList_some, Option.toList_none, List.nil_append, List.cons_append]
      exact hv b pre post Q hq
theorem g15 (h : LN A) (st ln : Int32) : ∃ v : Int32, ((v = 0 ∧ ∀ j : Int32, (0 : Int32).toInt ≤ j.toInt → j.toInt < 4 → ¬ OV A st ln j) ∨ (v = 1 ∧ ∃ j : Int32, (0 : Int32).toInt ≤ j.toInt ∧ j.toInt < 4 ∧ OV A st ln j)) ∧ ∀ (b : Nat) (pre post : AHeap) (Q : Option Value → AHeap → Prop), Q (some (.int v)) (put (b + 1) pre s A post) → M15 0 [.val (.ref (b + 1)), .val (.int st), .val (.int ln), .unset, .unset, .unset] [] (put (b + 1) pre s A post) Q := by
  obtain ⟨v, hd, hv⟩ := g15a (s := s) (st := st) (ln := ln) h 4 0 .unset .unset okS_u okS_u (by decide) rfl
  refine ⟨v, hd, fun b pre post Q hq => ?_⟩
  simp [m15_0, m15_1u, own_k15_0, own_k15_1, own_k15_2, nb0, nb1, ou_a, Option.toList_some, Option.toList_none, List.nil_append, List.cons_append]
  exact hv b pre post Q hq
theorem b13a {p d w q : Int32} (d0 : ¬ s 1 < s 0) : ∀ (b : Nat) (pre post : AHeap) (Q : Option Value → AHeap → Prop), Q (some (.int (-1))) (put (b + 1) pre s A post) → M13 0 [.val (.ref (b + 1)), .val (.int p), .val (.int d), .val (.int w), .val (.int q), .unset] [] (put (b + 1) pre s A post) Q := by
  intro b pre post Q hq
  simp [d0, own_k13_0, own_k13_1, own_k13_2, own_k13_3, m13_111, own_k13_4, nb0, nb1, ou_a, Option.toList_some, Option.toList_none, List.nil_append, List.cons_append]
  exact hq
set_option maxRecDepth 1000000 in
set_option maxHeartbeats 20000000 in
theorem b13b {p d w q : Int32} (d0 : s 1 < s 0) (hb : p < 1 ∨ 840 < p ∨ d < 1 ∨ p < d ∨ w < 1 ∨ d < w) : ∀ (b : Nat) (pre post : AHeap) (Q : Option Value → AHeap → Prop), Q (some (.int (-2))) (put (b + 1) pre s A post) → M13 0 [.val (.ref (b + 1)), .val (.int p), .val (.int d), .val (.int w), .val (.int q), .unset] [] (put (b + 1) pre s A post) Q := by
  intro b pre post Q hq
  by_cases d1 : p < 1
  · simp [d0, d1, own_k13_0, own_k13_1, own_k13_2, own_k13_3, m13_111, own_k13_4, nb0, nb1, ou_a, Option.toList_some, Option.toList_none, List.nil_append, List.cons_append]
    exact hq
  by_cases d2 : 840 < p
  · simp [d0, d1, d2, own_k13_0, own_k13_1, own_k13_2, own_k13_3, m13_111, own_k13_4, nb0, nb1, ou_a, Option.toList_some, Option.toList_none, List.nil_append, List.cons_append]
    exact hq
  by_cases d3 : d < 1
  · simp [d0, d1, d2, d3, own_k13_0, own_k13_1, own_k13_2, own_k13_3, m13_111, own_k13_4, nb0, nb1, ou_a, Option.toList_some, Option.toList_none, List.nil_append, List.cons_append]
    exact hq
  by_cases d4 : p < d
  · simp [d0, d1, d2, d3, d4, own_k13_0, own_k13_1, own_k13_2, own_k13_3, m13_111, own_k13_4, nb0, nb1, ou_a, Option.toList_some, Option.toList_none, List.nil_append, List.cons_append]
    exact hq
  by_cases d5 : w < 1
  · simp [d0, d1, d2, d3, d4, d5, own_k13_0, own_k13_1, own_k13_2, own_k13_3, m13_111, own_k13_4, nb0, nb1, ou_a, Option.toList_some, Option.toList_none, List.nil_append, List.cons_append]
    exact hq
  have d6 : d < w := by
    rcases hb with z | z | z | z | z | z
    · exact absurd z d1
    · exact absurd z d2
    · exact absurd z d3
    · exact absurd z d4
    · exact absurd z d5
    · exact z
  simp [d0, d1, d2, d3, d4, d5, d6, own_k13_0, own_k13_1, own_k13_2, own_k13_3, m13_111, own_k13_4, nb0, nb1, ou_a, Option.toList_some, Option.toList_none, List.nil_append, List.cons_append]
  exact hq
set_option maxRecDepth 1000000 in
set_option maxHeartbeats 20000000 in
theorem b13c (h : GS s A) {p d w q : Int32} (d0 : s 1 < s 0) (d1 : ¬ p < 1) (d2 : ¬ 840 < p) (d3 : ¬ d < 1) (d4 : ¬ p < d) (d5 : ¬ w < 1) (d6 : ¬ d < w) (d8 : ¬ 63 < q) (hb : q < 1 ∨ ∃ j : Int32, 0 ≤ j.toInt ∧ j.toInt < (s 1).toInt ∧ getA (A 3) j = q) : ∀ (b : Nat) (pre post : AHeap) (Q : Option Value → AHeap → Prop), Q (some (.int (-3))) (put (b + 1) pre s A post) → M13 0 [.val (.ref (b + 1)), .val (.int p), .val (.int d), .val (.int w), .val (.int q), .unset] [] (put (b + 1) pre s A post) Q := by
  intro b pre post Q hq
  by_cases d7 : q < 1
  · simp [d0, d1, d2, d3, d4, d5, d6, d7, own_k13_0, own_k13_1, own_k13_2, own_k13_3, m13_111, own_k13_4, nb0, nb1, ou_a, Option.toList_some, Option.toList_none, List.nil_append, List.cons_append]
    exact hq
  · obtain ⟨v, hd, hv⟩ := g14 h q
    have v0 : ¬ v = 0 := by
      rcases hd with ⟨_, hd⟩ | ⟨w, _⟩
      · rcases hb with z | ⟨j, j1, j2, j3⟩
        · exact absurd z d7
        · exact absurd j3 (hd j (by rw [i_0]; exact j1) j2)
      · rw [w]; decide
    simp [d0, d1, d2, d3, d4, d5, d6, d7, d8, own_k13_0, own_k13_1, own_k13_2, own_k13_3, m13_111, own_k13_4, nb0, nb1, ou_a, Option.toList_some, Option.toList_none, List.nil_append, List.cons_append]
    refine hv b pre post _ ?_
    simp [v0, own_k13_0, own_k13_1, own_k13_2, own_k13_3, m13_111, own_k13_4, nb0, nb1, ou_a, Option.toList_some, Option.toList_none, List.nil_append, List.cons_append]
    exact hq
set_option maxRecDepth 1000000 in
set_option maxHeartbeats 20000000 in
theorem b13d (h : GS s A) {p d w q : Int32} (d0 : s 1 < s 0) (d1 : ¬ p < 1) (d2 : ¬ 840 < p) (d3 : ¬ d < 1) (d4 : ¬ p < d) (d5 : ¬ w < 1) (d6 : ¬ d < w) (d7 : ¬ q < 1) (d8 : ¬ 63 < q) (hb : ∀ j : Int32, 0 ≤ j.toInt → j.toInt < (s 1).toInt → ¬ getA (A 3) j = q) : ∃ (A' : Nat → List Int32), (LN A' ∧ (∀ j, j ≠ 9 → j ≠ 10 → A' j = A j) ∧ (getA (A' 10) 0 = 0 ∧ getA (A' 10) 1 = 0 ∧ getA (A' 10) 2 = 0 ∧ getA (A' 10) 3 = 0)) ∧ ∀ (b : Nat) (pre post : AHeap) (Q : Option Value → AHeap → Prop), Q (some (.int 0)) (put (b + 1) pre (ou (ou (ou (ou (ou s 4 1) 5 p) 6 d) 7 w) 8 q) A' post) → M13 0 [.val (.ref (b + 1)), .val (.int p), .val (.int d), .val (.int w), .val (.int q), .unset] [] (put (b + 1) pre s A post) Q := by
  obtain ⟨v, hd, hv⟩ := g14 h q
  have v0 : v = 0 := by
    rcases hd with ⟨w, _⟩ | ⟨_, j, j1, j2, j3⟩
    · exact w
    · exact absurd j3 (hb j (by rw [i_0] at j1; exact j1) j2)
  have y9 : (A 9).length = 4 := (h.1 9).trans A0l_9
  have y10 : (A 10).length = 4 := (h.1 10).trans A0l_10
  apply Exists.intro
  refine ⟨?_, fun b pre post Q hq => ?_⟩
  rotate_left 1
  · simp [d0, d1, d2, d3, d4, d5, d6, d7, d8, own_k13_0, own_k13_1, own_k13_2, own_k13_3, m13_111, own_k13_4, nb0, nb1, ou_a, Option.toList_some, Option.toList_none, List.nil_append, List.cons_append]
    refine hv b pre post _ ?_
    simp [v0, inB_iff, setA_len, y9, y10, own_k13_0, own_k13_1, own_k13_2, own_k13_3, m13_111, own_k13_4, nb0, nb1, ou_a, Option.toList_some, Option.toList_none, List.nil_append, List.cons_append]
    exact hq
  · have h := h.1
    refine ⟨(by (repeat refine LN_ou ?_ (by simp only [setA_len]; exact h _)); exact h), fun j j1 j2 => by simp only [ou_a, if_neg j1, if_neg j2], ?_⟩
    simp [ou_a, getA_set2, setA_len, y10]
theorem c12a {r st ln : Int32} (f0 : s 4 = 0) : ∀ (b : Nat) (pre post : AHeap) (Q : Option Value → AHeap → Prop), Q (some (.int (-4))) (put (b + 1) pre s A post) → M12 0 [.val (.ref (b + 1)), .val (.int r), .val (.int st), .val (.int ln)] [] (put (b + 1) pre s A post) Q := by
  intro b pre post Q hq
  simp [f0, own_k12_0, own_k12_1, own_k12_2, own_k12_3, nb0, nb1, ou_a, Option.toList_some, Option.toList_none, List.nil_append, List.cons_append]
  exact hq
set_option maxRecDepth 1000000 in
set_option maxHeartbeats 20000000 in
theorem c12b {r st ln : Int32} (f0 : ¬ s 4 = 0) (f1 : ¬ r < 0) (f3 : ¬ st < 0) (hb : ¬ r < 4 ∨ ln < 1 ∨ s 7 < st ∨ s 7 - st < ln) : ∀ (b : Nat) (pre post : AHeap) (Q : Option Value → AHeap → Prop), Q (some (.int (-2))) (put (b + 1) pre s A post) → M12 0 [.val (.ref (b + 1)), .val (.int r), .val (.int st), .val (.int ln)] [] (put (b + 1) pre s A post) Q := by
  intro b pre post Q hq
  by_cases f2 : r < 4
  · by_cases f4 : ln < 1
    · simp [f0, f1, f2, f3, f4, own_k12_0, own_k12_1, own_k12_2, own_k12_3, nb0, nb1, ou_a, Option.toList_some, Option.toList_none, List.nil_append, List.cons_append]
      exact hq
    by_cases f5 : s 7 < st
    · simp [f0, f1, f2, f3, f4, f5, own_k12_0, own_k12_1, own_k12_2, own_k12_3, nb0, nb1, ou_a, Option.toList_some, Option.toList_none, List.nil_append, List.cons_append]
      exact hq
    have f6 : s 7 - st < ln := by
      rcases hb with z | z | z | z
      · exact absurd f2 z
      · exact absurd z f4
      · exact absurd z f5
      · exact z
    simp [f0, f1, f2, f3, f4, f5, f6, own_k12_0, own_k12_1, own_k12_2, own_k12_3, nb0, nb1, ou_a, Option.toList_some, Option.toList_none, List.nil_append, List.cons_append]
    exact hq
  · simp [f0, f1, f2, own_k12_0, own_k12_1, own_k12_2, own_k12_3, nb0, nb1, ou_a, Option.toList_some, Option.toList_none, List.nil_append, List.cons_append]
    exact hq
set_option maxRecDepth 1000000 in
set_option maxHeartbeats 20000000 in
theorem c12c (h : LN A) {r st ln : Int32} (f0 : ¬ s 4 = 0) (f1 : ¬ r < 0) (f2 : r < 4) (f3 : ¬ st < 0) (f4 : ¬ ln < 1) (f5 : ¬ s 7 < st) (f6 : ¬ s 7 - st < ln) (hb : 0 < getA (A 10) r ∨ ∃ j : Int32, 0 ≤ j.toInt ∧ j.toInt < 4 ∧ OV A st ln j) : ∀ (b : Nat) (pre post : AHeap) (Q : Option Value → AHeap → Prop), Q (some (.int (-5))) (put (b + 1) pre s A post) → M12 0 [.val (.ref (b + 1)), .val (.int r), .val (.int st), .val (.int ln)] [] (put (b + 1) pre s A post) Q := by
  intro b pre post Q hq
  have q10 := in_lt h z10 f1 f2
  by_cases f7 : 0 < getA (A 10) r
  · simp [f0, f1, f2, f3, f4, f5, f6, f7, q10, own_k12_0, own_k12_1, own_k12_2, own_k12_3, nb0, nb1, ou_a, Option.toList_some, Option.toList_none, List.nil_append, List.cons_append]
    exact hq
  · obtain ⟨v, hd, hv⟩ := g15 (s := s) h st ln
    have v0 : ¬ v = 0 := by
      rcases hd with ⟨_, hd⟩ | ⟨w, _⟩
      · rcases hb with z | ⟨j, j1, j2, j3⟩
        · exact absurd z f7
        · exact absurd j3 (hd j (by rw [i_0]; exact j1) j2)
      · rw [w]; decide
    simp [f0, f1, f2, f3, f4, f5, f6, f7, q10, own_k12_0, own_k12_1, own_k12_2, own_k12_3, nb0, nb1, ou_a, Option.toList_some, Option.toList_none, List.nil_append, List.cons_append]
    refine hv b pre post _ ?_
    simp [v0, own_k12_0, own_k12_1, own_k12_2, own_k12_3, nb0, nb1, ou_a, Option.toList_some, Option.toList_none, List.nil_append, List.cons_append]
    exact hq
set_option maxRecDepth 1000000 in
set_option maxHeartbeats 20000000 in
theorem c12d (h : LN A) {r st ln : Int32} (f0 : ¬ s 4 = 0) (f1 : ¬ r < 0) (f2 : r < 4) (f3 : ¬ st < 0) (f4 : ¬ ln < 1) (f5 : ¬ s 7 < st) (f6 : ¬ s 7 - st < ln) (f7 : ¬ 0 < getA (A 10) r) (hb : ∀ j : Int32, 0 ≤ j.toInt → j.toInt < 4 → ¬ OV A st ln j) : ∀ (b : Nat) (pre post : AHeap) (Q : Option Value → AHeap → Prop), Q (some (.int 0)) (put (b + 1) pre s (ou (ou A 9 (setA (A 9) r st)) 10 (setA (A 10) r ln)) post) → M12 0 [.val (.ref (b + 1)), .val (.int r), .val (.int st), .val (.int ln)] [] (put (b + 1) pre s A post) Q := by
  intro b pre post Q hq
  have q9 := in_lt h z9 f1 f2
  have q10 := in_lt h z10 f1 f2
  obtain ⟨v, hd, hv⟩ := g15 (s := s) h st ln
  have v0 : v = 0 := by
    rcases hd with ⟨w, _⟩ | ⟨_, j, j1, j2, j3⟩
    · exact w
    · exact absurd j3 (hb j (by rw [i_0] at j1; exact j1) j2)
  simp [f0, f1, f2, f3, f4, f5, f6, f7, q10, own_k12_0, own_k12_1, own_k12_2, own_k12_3, nb0, nb1, ou_a, Option.toList_some, Option.toList_none, List.nil_append, List.cons_append]
  refine hv b pre post _ ?_
  simp [v0, q9, q10, own_k12_0, own_k12_1, own_k12_2, own_k12_3, nb0, nb1, ou_a, Option.toList_some, Option.toList_none, List.nil_append, List.cons_append]
  exact hq
theorem ofNat_s (m : Nat) : Int32.ofNat (m + 1) = Int32.ofNat m + 1 := Int32.toBitVec_inj.mp (BitVec.ofNat_add m 1)
theorem ofNat_t {x : Int32} (h : 0 ≤ x.toInt) : Int32.ofNat x.toInt.toNat = x := by
  have e2 : Int32.ofNat x.toInt.toNat = Int32.ofInt (x.toInt.toNat : Int) := rfl
  rw [e2, Int.toNat_of_nonneg h, Int32.ofInt_toInt]
theorem i_2 : (2 : Int32).toInt = 2 := rfl
theorem i_3 : (3 : Int32).toInt = 3 := rfl
theorem ix40 {j : Int32} (j0 : 0 ≤ j.toInt) (j1 : j.toInt < 9) : (j * 4).toInt = j.toInt * 4 := by
  have := mul_i (a := j) (b := 4) (by rw [i_4]; omega) (by rw [i_4]; omega)
  rw [this, i_4]
theorem ix4 {j r : Int32} (j0 : 0 ≤ j.toInt) (j1 : j.toInt < 9) (r0 : 0 ≤ r.toInt) (r1 : r.toInt < 4) : (j * 4 + r).toInt = j.toInt * 4 + r.toInt := by
  have e1 := ix40 j0 j1
  have e2 := add_i (a := j * 4) (b := r) (by rw [e1]; omega) (by rw [e1]; omega)
  rw [e2, e1]
theorem s4 {l : List Int32} {n v0 v1 v2 v3 : Int32} (hl : l.length = 36) (n0 : 0 ≤ n.toInt) (n1 : n.toInt < 9) (i r : Int32) (i0 : 0 ≤ i.toInt) (i1 : i.toInt < 9) (r0 : 0 ≤ r.toInt) (r1 : r.toInt < 4) :
    getA (setA (setA (setA (setA l (n * 4) v0) (n * 4 + 1) v1) (n * 4 + 2) v2) (n * 4 + 3) v3) (i * 4 + r) = if i.toInt = n.toInt then (if r.toInt = 0 then v0 else if r.toInt = 1 then v1 else if r.toInt = 2 then v2 else v3) else getA l (i * 4 + r) := by
  have e := ix4 i0 i1 r0 r1
  have a0 := ix40 n0 n1
  have a1 := ix4 (r := 1) n0 n1 (by decide) (by decide)
  have a2 := ix4 (r := 2) n0 n1 (by decide) (by decide)
  have a3 := ix4 (r := 3) n0 n1 (by decide) (by decide)
  rw [i_1] at a1
  rw [i_2] at a2
  rw [i_3] at a3
  simp only [getA_set2, setA_len, toNat_eq, hl, e, a0, a1, a2, a3]
  repeat' split
  all_goals first
    | rfl
    | (exfalso; omega)
theorem r4 {r : Int32} (r0 : 0 ≤ r.toInt) (r1 : r.toInt < 4) : r = 0 ∨ r = 1 ∨ r = 2 ∨ r = 3 := by
  have z : r.toInt = 0 ∨ r.toInt = 1 ∨ r.toInt = 2 ∨ r.toInt = 3 := by omega
  rcases z with z | z | z | z
  · exact Or.inl (Int32.toInt_inj.mp z)
  · exact Or.inr (Or.inl (Int32.toInt_inj.mp z))
  · exact Or.inr (Or.inr (Or.inl (Int32.toInt_inj.mp z)))
  · exact Or.inr (Or.inr (Or.inr (Int32.toInt_inj.mp z)))
def PL (n q : Int32) (A A' : Nat → List Int32) : Prop := (∀ j, 6 ≤ j → A' j = A j) ∧ getA (A' 3) n = q ∧ (∀ i : Int32, 0 ≤ i.toInt → i.toInt < 9 → i.toInt ≠ n.toInt → getA (A' 3) i = getA (A 3) i) ∧ (∀ i r : Int32, 0 ≤ i.toInt → i.toInt < 9 → 0 ≤ r.toInt → r.toInt < 4 → getA (A' 5) (i * 4 + r) = if i.toInt = n.toInt then getA (A 10) r else getA (A 5) (i * 4 + r))
set_option maxRecDepth 1000000 in
set_option maxHeartbeats 20000000 in
theorem g18 (h : GS s A) (n : Int32) (n0 : ¬ n < 0) (n1 : n < 9) : ∃ (A' : Nat → List Int32), (LN A' ∧ PL n (s 8) A A') ∧ ∀ (b : Nat) (pre post : AHeap) (Q : Option Value → AHeap → Prop), Q none (put (b + 1) pre s A' post) → M18 0 [.val (.ref (b + 1)), .val (.int n), .unset] [] (put (b + 1) pre s A post) Q := by
  have a0 := in_lt h.1 z0 n0 n1
  have a1 := in_lt h.1 z1 n0 n1
  have a2 := in_lt h.1 z2 n0 n1
  have a3 := in_lt h.1 z3 n0 n1
  have x0 := idx4 n0 n1 (r := 0) (by decide) (by decide)
  have x1 := idx4 n0 n1 (r := 1) (by decide) (by decide)
  have x2 := idx4 n0 n1 (r := 2) (by decide) (by decide)
  have x3 := idx4 n0 n1 (r := 3) (by decide) (by decide)
  rw [Int32.add_zero] at x0
  have s0 := in_lt h.1 z4 x0.1 x0.2
  have s1 := in_lt h.1 z4 x1.1 x1.2
  have s2 := in_lt h.1 z4 x2.1 x2.2
  have s3 := in_lt h.1 z4 x3.1 x3.2
  have u0 := in_lt h.1 z5 x0.1 x0.2
  have u1 := in_lt h.1 z5 x1.1 x1.2
  have u2 := in_lt h.1 z5 x2.1 x2.2
  have u3 := in_lt h.1 z5 x3.1 x3.2
  have p0 : inB 0 (A 9) := in_lt h.1 z9 (by decide) (by decide)
  have p1 : inB 1 (A 9) := in_lt h.1 z9 (by decide) (by decide)
  have p2 : inB 2 (A 9) := in_lt h.1 z9 (by decide) (by decide)
  have p3 : inB 3 (A 9) := in_lt h.1 z9 (by decide) (by decide)
  have r0 : inB 0 (A 10) := in_lt h.1 z10 (by decide) (by decide)
  have r1 : inB 1 (A 10) := in_lt h.1 z10 (by decide) (by decide)
  have r2 : inB 2 (A 10) := in_lt h.1 z10 (by decide) (by decide)
  have r3 : inB 3 (A 10) := in_lt h.1 z10 (by decide) (by decide)
  have m0 := nn_i.mp n0
  have m1 := n1
  rw [lt_i, i_9] at m1
  apply Exists.intro
  refine ⟨?_, fun b pre post Q hq => ?_⟩
  rotate_left 1
  · simp [inB_set, a0, a1, a2, a3, s0, s1, s2, s3, u0, u1, u2, u3, p0, p1, p2, p3, r0, r1, r2, r3, own_k18_0, own_k18_1, m18_42, own_k18_2, own_k18_3, nb0, nb1, ou_a, Option.toList_some, Option.toList_none, List.nil_append, List.cons_append]
    exact hq
  · refine ⟨?_, fun j hj => by simp only [ou_a, if_neg (show ¬ j = 0 by omega), if_neg (show ¬ j = 1 by omega), if_neg (show ¬ j = 2 by omega), if_neg (show ¬ j = 3 by omega), if_neg (show ¬ j = 4 by omega), if_neg (show ¬ j = 5 by omega)], ?_, fun i i0 i1 ne => ?_, fun i r i0 i1 r0 r1 => ?_⟩
    · have h := h.1
      exact (by (repeat refine LN_ou ?_ (by simp only [setA_len]; exact h _)); exact h)
    · show getA (setA (A 3) n (s 8)) n = s 8
      rw [getA_set a3, if_pos rfl]
    · show getA (setA (A 3) n (s 8)) i = getA (A 3) i
      rw [getA_set a3, if_neg (by rw [toNat_eq, toNat_eq]; omega)]
    · show getA (setA (setA (setA (setA (A 5) (n * 4) (getA (A 10) 0)) (n * 4 + 1) (getA (A 10) 1)) (n * 4 + 2) (getA (A 10) 2)) (n * 4 + 3) (getA (A 10) 3)) (i * 4 + r) = _
      rw [s4 ((h.1 5).trans A0l_5) m0 m1 i r i0 i1 r0 r1]
      by_cases z : i.toInt = n.toInt
      · rw [if_pos z, if_pos z]
        rcases r4 r0 r1 with rfl | rfl | rfl | rfl <;> rfl
      · rw [if_neg z, if_neg z]
def stp (A : Nat → List Int32) (r j c : Int32) : Int32 := if 0 < getA (A 5) (j * 4 + r) ∧ c < getA (A 3) j then getA (A 3) j else c
def CEL (A : Nat → List Int32) (r : Int32) : Nat → Int32 → Int32 → Int32
  | 0, _, c => c
  | n + 1, j, c => CEL A r n (j + 1) (stp A r j c)
theorem CEL_snoc {r : Int32} : ∀ (n : Nat) (j c : Int32), CEL A r (n + 1) j c = stp A r (j + Int32.ofNat n) (CEL A r n j c) := by
  intro n
  induction n with
  | zero =>
    intro j c
    rw [show Int32.ofNat 0 = 0 from rfl, Int32.add_zero]
    rfl
  | succ n ih =>
    intro j c
    have e : CEL A r (n + 1 + 1) j c = CEL A r (n + 1) (j + 1) (stp A r j c) := rfl
    rw [e, ih, ofNat_s, show j + 1 + Int32.ofNat n = j + (Int32.ofNat n + 1) by rw [Int32.add_assoc, Int32.add_comm 1]]
    rfl
theorem CEL_ext {A' : Nat → List Int32} {r : Int32} (h3 : A' 3 = A 3) (h5 : A' 5 = A 5) : ∀ (n : Nat) (j c : Int32), CEL A' r n j c = CEL A r n j c := by
  intro n
  induction n with
  | zero => intro j c; rfl
  | succ n ih =>
    intro j c
    show CEL A' r n (j + 1) (stp A' r j c) = CEL A r n (j + 1) (stp A r j c)
    rw [ih]
    unfold stp
    rw [h3, h5]
theorem CEL_congr {A' : Nat → List Int32} {r : Int32} : ∀ (n : Nat) (j c : Int32), 0 ≤ j.toInt → j.toInt + n ≤ 9 → (∀ i : Int32, j.toInt ≤ i.toInt → i.toInt < j.toInt + n → getA (A' 3) i = getA (A 3) i ∧ getA (A' 5) (i * 4 + r) = getA (A 5) (i * 4 + r)) → CEL A' r n j c = CEL A r n j c := by
  intro n
  induction n with
  | zero => intro j c _ _ _; rfl
  | succ n ih =>
    intro j c j0 j1 h
    have e := add1_i (a := j) (by omega)
    show CEL A' r n (j + 1) (stp A' r j c) = CEL A r n (j + 1) (stp A r j c)
    rw [ih (j + 1) _ (by omega) (by omega) (fun i p q => h i (by omega) (by omega))]
    unfold stp
    rw [(h j (Int.le_refl _) (by omega)).1, (h j (Int.le_refl _) (by omega)).2]
set_option maxRecDepth 1000000 in
set_option maxHeartbeats 20000000 in
theorem g20a (h : LN A) {m r : Int32} (m1 : m.toInt ≤ 9) (r0 : ¬ r < 0) (r1 : r < 4) : ∀ (n : Nat) (j c : Int32), ¬ j < 0 → j.toInt + n = m.toInt → ∀ (b : Nat) (pre post : AHeap) (Q : Option Value → AHeap → Prop), M20 57 [.val (.ref (b + 1)), .val (.int m), .val (.int r), .val (.int (CEL A r n j c)), .val (.int m)] [] (put (b + 1) pre s A post) Q → M20 12 [.val (.ref (b + 1)), .val (.int m), .val (.int r), .val (.int c), .val (.int j)] [] (put (b + 1) pre s A post) Q := by
  intro n
  induction n with
  | zero =>
    intro j c h0 e b pre post Q hq
    have hj : j = m := Int32.toInt_inj.mp (by omega)
    subst hj
    rw [m20_12]
    simp [lt_irr, m20_0, m20_1u, own_k20_0, own_k20_1, m20_40, m20_43, m20_44, m20_47, m20_49, m20_50i, m20_51, m20_54, m20_58, m20_61, m20_62, m20_63, m20_64, m20_67, m20_70, nb0, nb1, ou_a, Option.toList_some, Option.toList_none, List.nil_append, List.cons_append]
    exact hq
  | succ n ih =>
    intro j c h0 e b pre post Q hq
    have hlt : j < m := by rw [lt_i]; omega
    have j9 := lt9 hlt m1
    have x := idx4 h0 j9 r0 r1
    have k5 := in_lt h z5 x.1 x.2
    have k3 := in_lt h z3 h0 j9
    have n1 := succ_nn h0 (by omega)
    have e1 : (j + 1).toInt + n = m.toInt := by rw [add1_i (by omega)]; omega
    by_cases b1 : 0 < getA (A 5) (j * 4 + r)
    · by_cases b2 : c < getA (A 3) j
      · have ec : CEL A r (n + 1) j c = CEL A r n (j + 1) (getA (A 3) j) := by
          show CEL A r n (j + 1) (stp A r j c) = _
          rw [show stp A r j c = (getA (A 3) j) from if_pos ⟨b1, b2⟩]
        rw [ec] at hq
        rw [m20_12]
        simp [hlt, k3, k5, b1, b2, m20_0, m20_1u, own_k20_0, own_k20_1, m20_40, m20_43, m20_44, m20_47, m20_49, m20_50i, m20_51, m20_54, m20_58, m20_61, m20_62, m20_63, m20_64, m20_67, m20_70, nb0, nb1, ou_a, Option.toList_some, Option.toList_none, List.nil_append, List.cons_append]
        exact ih (j + 1) (getA (A 3) j) n1 e1 b pre post Q hq
      · have ec : CEL A r (n + 1) j c = CEL A r n (j + 1) c := by
          show CEL A r n (j + 1) (stp A r j c) = _
          rw [show stp A r j c = c from if_neg (fun z => b2 z.2)]
        rw [ec] at hq
        rw [m20_12]
        simp [hlt, k3, k5, b1, b2, m20_0, m20_1u, own_k20_0, own_k20_1, m20_40, m20_43, m20_44, m20_47, m20_49, m20_50i, m20_51, m20_54, m20_58, m20_61, m20_62, m20_63, m20_64, m20_67, m20_70, nb0, nb1, ou_a, Option.toList_some, Option.toList_none, List.nil_append, List.cons_append]
        exact ih (j + 1) c n1 e1 b pre post Q hq
    · have ec : CEL A r (n + 1) j c = CEL A r n (j + 1) c := by
        show CEL A r n (j + 1) (stp A r j c) = _
        rw [show stp A r j c = c from if_neg (fun z => b1 z.1)]
      rw [ec] at hq
      rw [m20_12]
      simp [hlt, k3, k5, b1, m20_0, m20_1u, own_k20_0, own_k20_1, m20_40, m20_43, m20_44, m20_47, m20_49, m20_50i, m20_51, m20_54, m20_58, m20_61, m20_62, m20_63, m20_64, m20_67, m20_70, nb0, nb1, ou_a, Option.toList_some, Option.toList_none, List.nil_append, List.cons_append]
      exact ih (j + 1) c n1 e1 b pre post Q hq
set_option maxRecDepth 1000000 in
set_option maxHeartbeats 20000000 in
theorem g20b {m : Int32} (m0 : 0 ≤ m.toInt) (m1 : m.toInt ≤ 9) : ∀ (n : Nat) (r : Int32) (k3 k4 : Slot) (A : Nat → List Int32), LN A → okS k3 → okS k4 → ¬ r < 0 → r.toInt + n = 4 → ∃ (A' : Nat → List Int32), (LN A' ∧ (∀ j, j ≠ 11 → A' j = A j) ∧ (∀ q : Int32, 0 ≤ q.toInt → q.toInt < r.toInt → getA (A' 11) q = getA (A 11) q) ∧ (∀ q : Int32, r.toInt ≤ q.toInt → q.toInt < 4 → getA (A' 11) q = CEL A q m.toInt.toNat 0 0)) ∧ ∀ (b : Nat) (pre post : AHeap) (Q : Option Value → AHeap → Prop), Q none (put (b + 1) pre s A' post) → M20 2 [.val (.ref (b + 1)), .val (.int m), .val (.int r), k3, k4] [] (put (b + 1) pre s A post) Q := by
  intro n
  have em := Int.toNat_of_nonneg m0
  induction n with
  | zero =>
    intro r k3 k4 A h o3 o4 h0 e
    have hge : ¬ r < 4 := by rw [lt_i, i_4]; omega
    refine ⟨A, ⟨h, fun _ _ => rfl, fun _ _ _ => rfl, fun q p1 p2 => absurd p2 (by omega)⟩, fun b pre post Q hq => ?_⟩
    rw [m20_2]
    simp [hge, m20_0, m20_1u, own_k20_0, own_k20_1, own_k20_2, nb0, nb1, ou_a, Option.toList_some, Option.toList_none, List.nil_append, List.cons_append]
    exact hq
  | succ n ih =>
    intro r k3 k4 A h o3 o4 h0 e
    have hlt : r < 4 := by rw [lt_i, i_4]; omega
    have r0 := nn_i.mp h0
    have hc := g20a (s := s) (m := m) (r := r) h m1 h0 hlt m.toInt.toNat 0 0 (by decide) (by rw [i_0]; omega)
    have q11 := in_lt h z11 h0 hlt
    have er := add1_i (a := r) (by omega)
    obtain ⟨A', ⟨g1, g2, g3, g4⟩, hv⟩ := ih (r + 1) (.val (.int (CEL A r m.toInt.toNat 0 0))) (.val (.int m)) (ou A 11 (setA (A 11) r (CEL A r m.toInt.toNat 0 0))) (LN_ou h (by simp only [setA_len]; exact h _)) (okS_i _) (okS_i _) (succ_nn h0 (by omega)) (by rw [er]; omega)
    refine ⟨A', ⟨g1, fun j hj => ?_, fun q p1 p2 => ?_, fun q p1 p2 => ?_⟩, fun b pre post Q hq => ?_⟩
    · rw [g2 j hj, ou_a, if_neg hj]
    · rw [g3 q p1 (by omega)]
      show getA (setA (A 11) r _) q = _
      rw [getA_set q11, if_neg (by rw [toNat_eq, toNat_eq]; omega)]
    · by_cases z : q.toInt = r.toInt
      · rw [g3 q (by omega) (by omega)]
        show getA (setA (A 11) r _) q = _
        rw [Int32.toInt_inj.mp z, getA_set q11, if_pos rfl]
      · rw [g4 q (by omega) p2]
        exact CEL_ext (A := A) (A' := ou A 11 _) rfl rfl _ _ _
    · rw [m20_2]
      simp [hlt, o3, o4, m20_0, m20_1u, own_k20_0, own_k20_1, own_k20_2, nb0, nb1, ou_a, Option.toList_some, Option.toList_none, List.nil_append, List.cons_append]
      refine hc b pre post Q ?_
      simp [q11, m20_0, m20_1u, own_k20_0, own_k20_1, own_k20_2, nb0, nb1, ou_a, Option.toList_some, Option.toList_none, List.nil_append, List.cons_append]
      exact hv b pre post Q hq
theorem g20 {m : Int32} (h : LN A) (m0 : 0 ≤ m.toInt) (m1 : m.toInt ≤ 9) : ∃ (A' : Nat → List Int32), (LN A' ∧ (∀ j, j ≠ 11 → A' j = A j) ∧ (∀ q : Int32, 0 ≤ q.toInt → q.toInt < 4 → getA (A' 11) q = CEL A q m.toInt.toNat 0 0)) ∧ ∀ (b : Nat) (pre post : AHeap) (Q : Option Value → AHeap → Prop), Q none (put (b + 1) pre s A' post) → M20 0 [.val (.ref (b + 1)), .val (.int m), .unset, .unset, .unset] [] (put (b + 1) pre s A post) Q := by
  obtain ⟨A', ⟨g1, g2, _, g4⟩, hv⟩ := g20b (s := s) m0 m1 4 0 .unset .unset A h okS_u okS_u (by decide) rfl
  refine ⟨A', ⟨g1, g2, fun q p1 p2 => g4 q (by rw [i_0]; exact p1) p2⟩, fun b pre post Q hq => ?_⟩
  simp [m20_0, m20_1u, own_k20_0, own_k20_1, own_k20_2, nb0, nb1, ou_a, Option.toList_some, Option.toList_none, List.nil_append, List.cons_append]
  exact hv b pre post Q hq
set_option maxRecDepth 1000000 in
set_option maxHeartbeats 20000000 in
theorem g21a (h : LN A) {i m p j : Int32} (j0 : ¬ j < 0) (j1 : j < 9) : ∀ (n : Nat) (r c : Int32) (k7 : Slot), okS k7 → ¬ r < 0 → r.toInt + n = 4 → ∃ (c' : Int32) (r' k7' : Slot), okS r' ∧ okS k7' ∧ ∀ (b : Nat) (pre post : AHeap) (Q : Option Value → AHeap → Prop), M21 89 [.val (.ref (b + 1)), .val (.int i), .val (.int m), .val (.int c'), .val (.int p), .val (.int j), r', k7'] [] (put (b + 1) pre s A post) Q → M21 37 [.val (.ref (b + 1)), .val (.int i), .val (.int m), .val (.int c), .val (.int p), .val (.int j), .val (.int r), k7] [] (put (b + 1) pre s A post) Q := by
  intro n
  induction n with
  | zero =>
    intro r c k7 o7 h0 e
    have hge : ¬ r < 4 := by rw [lt_i, i_4]; omega
    refine ⟨c, .val (.int r), k7, okS_i _, o7, fun b pre post Q hq => ?_⟩
    rw [m21_37]
    simp [hge, own_k21_0, own_k21_1, own_k21_2, m21_62, m21_63, m21_66, m21_68, m21_69, m21_71, m21_74, m21_76, m21_77, m21_80, m21_82i, m21_83, m21_86, m21_92, m21_95, m21_96, nb0, nb1, ou_a, Option.toList_some, Option.toList_none, List.nil_append, List.cons_append]
    exact hq
  | succ n ih =>
    intro r c k7 o7 h0 e
    have hlt : r < 4 := by rw [lt_i, i_4]; omega
    have x := idx4 j0 j1 h0 hlt
    have k5 := in_lt h z5 x.1 x.2
    have q11 := in_lt h z11 h0 hlt
    have n1 := succ_nn h0 (by omega)
    have e1 : (r + 1).toInt + n = 4 := by rw [add1_i (by omega)]; omega
    by_cases b1 : 0 < getA (A 5) (j * 4 + r)
    · by_cases b2 : getA (A 11) r < p
      · obtain ⟨v, r', k', o1, o2, hv⟩ := ih (r + 1) c (.val (.int (getA (A 5) (j * 4 + r)))) (okS_i _) n1 e1
        refine ⟨v, r', k', o1, o2, fun b pre post Q hq => ?_⟩
        rw [m21_37]
        simp [hlt, k5, q11, b1, b2, o7, own_k21_0, own_k21_1, own_k21_2, m21_62, m21_63, m21_66, m21_68, m21_69, m21_71, m21_74, m21_76, m21_77, m21_80, m21_82i, m21_83, m21_86, m21_92, m21_95, m21_96, nb0, nb1, ou_a, Option.toList_some, Option.toList_none, List.nil_append, List.cons_append]
        exact hv b pre post Q hq
      · by_cases b3 : c < getA (A 5) (j * 4 + r)
        · obtain ⟨v, r', k', o1, o2, hv⟩ := ih (r + 1) (getA (A 5) (j * 4 + r)) (.val (.int (getA (A 5) (j * 4 + r)))) (okS_i _) n1 e1
          refine ⟨v, r', k', o1, o2, fun b pre post Q hq => ?_⟩
          rw [m21_37]
          simp [hlt, k5, q11, b1, b2, b3, o7, own_k21_0, own_k21_1, own_k21_2, m21_62, m21_63, m21_66, m21_68, m21_69, m21_71, m21_74, m21_76, m21_77, m21_80, m21_82i, m21_83, m21_86, m21_92, m21_95, m21_96, nb0, nb1, ou_a, Option.toList_some, Option.toList_none, List.nil_append, List.cons_append]
          exact hv b pre post Q hq
        · obtain ⟨v, r', k', o1, o2, hv⟩ := ih (r + 1) c (.val (.int (getA (A 5) (j * 4 + r)))) (okS_i _) n1 e1
          refine ⟨v, r', k', o1, o2, fun b pre post Q hq => ?_⟩
          rw [m21_37]
          simp [hlt, k5, q11, b1, b2, b3, o7, own_k21_0, own_k21_1, own_k21_2, m21_62, m21_63, m21_66, m21_68, m21_69, m21_71, m21_74, m21_76, m21_77, m21_80, m21_82i, m21_83, m21_86, m21_92, m21_95, m21_96, nb0, nb1, ou_a, Option.toList_some, Option.toList_none, List.nil_append, List.cons_append]
          exact hv b pre post Q hq
    · obtain ⟨v, r', k', o1, o2, hv⟩ := ih (r + 1) c (.val (.int (getA (A 5) (j * 4 + r)))) (okS_i _) n1 e1
      refine ⟨v, r', k', o1, o2, fun b pre post Q hq => ?_⟩
      rw [m21_37]
      simp [hlt, k5, b1, o7, own_k21_0, own_k21_1, own_k21_2, m21_62, m21_63, m21_66, m21_68, m21_69, m21_71, m21_74, m21_76, m21_77, m21_80, m21_82i, m21_83, m21_86, m21_92, m21_95, m21_96, nb0, nb1, ou_a, Option.toList_some, Option.toList_none, List.nil_append, List.cons_append]
      exact hv b pre post Q hq
set_option maxRecDepth 1000000 in
set_option maxHeartbeats 20000000 in
theorem g21b (h : LN A) {i m p : Int32} (m1 : m.toInt ≤ 9) : ∀ (n : Nat) (j c : Int32) (k6 k7 : Slot), okS k6 → okS k7 → ¬ j < 0 → j.toInt + n = m.toInt → ∃ v : Int32, ∀ (b : Nat) (pre post : AHeap) (Q : Option Value → AHeap → Prop), Q (some (.int v)) (put (b + 1) pre s A post) → M21 13 [.val (.ref (b + 1)), .val (.int i), .val (.int m), .val (.int c), .val (.int p), .val (.int j), k6, k7] [] (put (b + 1) pre s A post) Q := by
  intro n
  induction n with
  | zero =>
    intro j c k6 k7 o6 o7 h0 e
    have hge : ¬ j < m := by rw [lt_i]; omega
    refine ⟨c, fun b pre post Q hq => ?_⟩
    rw [m21_13]
    simp [hge, own_k21_0, own_k21_1, own_k21_2, m21_62, m21_63, m21_66, m21_68, m21_69, m21_71, m21_74, m21_76, m21_77, m21_80, m21_82i, m21_83, m21_86, m21_92, m21_95, m21_96, nb0, nb1, ou_a, Option.toList_some, Option.toList_none, List.nil_append, List.cons_append]
    exact hq
  | succ n ih =>
    intro j c k6 k7 o6 o7 h0 e
    have hlt : j < m := by rw [lt_i]; omega
    have j9 := lt9 hlt m1
    have k3 := in_lt h z3 h0 j9
    have n1 := succ_nn h0 (by omega)
    have e1 : (j + 1).toInt + n = m.toInt := by rw [add1_i (by omega)]; omega
    by_cases b1 : getA (A 3) j < p
    · obtain ⟨c', r', k', o1, o2, hc⟩ := g21a (s := s) (i := i) (m := m) (p := p) h h0 j9 4 0 c k7 o7 (by decide) rfl
      obtain ⟨v, hv⟩ := ih (j + 1) c' r' k' o1 o2 n1 e1
      refine ⟨v, fun b pre post Q hq => ?_⟩
      rw [m21_13]
      simp [hlt, k3, b1, o6, own_k21_0, own_k21_1, own_k21_2, m21_62, m21_63, m21_66, m21_68, m21_69, m21_71, m21_74, m21_76, m21_77, m21_80, m21_82i, m21_83, m21_86, m21_92, m21_95, m21_96, nb0, nb1, ou_a, Option.toList_some, Option.toList_none, List.nil_append, List.cons_append]
      refine hc b pre post Q ?_
      rw [m21_89]
      simp [own_k21_0, own_k21_1, own_k21_2, m21_62, m21_63, m21_66, m21_68, m21_69, m21_71, m21_74, m21_76, m21_77, m21_80, m21_82i, m21_83, m21_86, m21_92, m21_95, m21_96, nb0, nb1, ou_a, Option.toList_some, Option.toList_none, List.nil_append, List.cons_append]
      exact hv b pre post Q hq
    · obtain ⟨v, hv⟩ := ih (j + 1) c k6 k7 o6 o7 n1 e1
      refine ⟨v, fun b pre post Q hq => ?_⟩
      rw [m21_13]
      simp [hlt, k3, b1, own_k21_0, own_k21_1, own_k21_2, m21_62, m21_63, m21_66, m21_68, m21_69, m21_71, m21_74, m21_76, m21_77, m21_80, m21_82i, m21_83, m21_86, m21_92, m21_95, m21_96, nb0, nb1, ou_a, Option.toList_some, Option.toList_none, List.nil_append, List.cons_append]
      rw [m21_89]
      simp [own_k21_0, own_k21_1, own_k21_2, m21_62, m21_63, m21_66, m21_68, m21_69, m21_71, m21_74, m21_76, m21_77, m21_80, m21_82i, m21_83, m21_86, m21_92, m21_95, m21_96, nb0, nb1, ou_a, Option.toList_some, Option.toList_none, List.nil_append, List.cons_append]
      exact hv b pre post Q hq
theorem g21 (h : LN A) (i m : Int32) (i0 : ¬ i < 0) (i1 : i < 9) (m0 : 0 ≤ m.toInt) (m1 : m.toInt ≤ 9) : ∃ v : Int32, ∀ (b : Nat) (pre post : AHeap) (Q : Option Value → AHeap → Prop), Q (some (.int v)) (put (b + 1) pre s A post) → M21 0 [.val (.ref (b + 1)), .val (.int i), .val (.int m), .unset, .unset, .unset, .unset, .unset] [] (put (b + 1) pre s A post) Q := by
  have em := Int.toNat_of_nonneg m0
  have k3 := in_lt h z3 i0 i1
  obtain ⟨v, hv⟩ := g21b (s := s) (i := i) (p := getA (A 3) i) h m1 m.toInt.toNat 0 0 .unset .unset okS_u okS_u (by decide) (by rw [i_0]; omega)
  refine ⟨v, fun b pre post Q hq => ?_⟩
  simp [k3, own_k21_0, own_k21_1, own_k21_2, m21_62, m21_63, m21_66, m21_68, m21_69, m21_71, m21_74, m21_76, m21_77, m21_80, m21_82i, m21_83, m21_86, m21_92, m21_95, m21_96, nb0, nb1, ou_a, Option.toList_some, Option.toList_none, List.nil_append, List.cons_append]
  exact hv b pre post Q hq
set_option maxRecDepth 1000000 in
set_option maxHeartbeats 20000000 in
theorem g23a (h : LN A) {i m r p : Int32} (m1 : m.toInt ≤ 9) : ∀ (n : Nat) (j c : Int32) (k7 : Slot), okS k7 → ¬ j < 0 → j.toInt + n = m.toInt → ∃ v : Int32, ∀ (b : Nat) (pre post : AHeap) (Q : Option Value → AHeap → Prop), Q (some (.int v)) (put (b + 1) pre s A post) → M23 14 [.val (.ref (b + 1)), .val (.int i), .val (.int m), .val (.int r), .val (.int c), .val (.int p), .val (.int j), k7] [] (put (b + 1) pre s A post) Q := by
  intro n
  induction n with
  | zero =>
    intro j c k7 o7 h0 e
    have hge : ¬ j < m := by rw [lt_i]; omega
    refine ⟨c, fun b pre post Q hq => ?_⟩
    rw [m23_14]
    simp [hge, own_k23_0, own_k23_1, own_k23_2, own_k23_3, nb0, nb1, ou_a, Option.toList_some, Option.toList_none, List.nil_append, List.cons_append]
    exact hq
  | succ n ih =>
    intro j c k7 o7 h0 e
    have hlt : j < m := by rw [lt_i]; omega
    have j9 := lt9 hlt m1
    have k0 := in_lt h z0 h0 j9
    have k2 := in_lt h z2 h0 j9
    have k3 := in_lt h z3 h0 j9
    have n1 := succ_nn h0 (by omega)
    have e1 : (j + 1).toInt + n = m.toInt := by rw [add1_i (by omega)]; omega
    by_cases b1 : p < getA (A 3) j
    · by_cases b2 : 0 < getA (A 0) j
      · have b3 := ne0_pos b2
        obtain ⟨v, hv⟩ := ih (j + 1) (c + (r + getA (A 0) j - 1) / getA (A 0) j * getA (A 2) j) (.val (.int (getA (A 0) j))) (okS_i _) n1 e1
        refine ⟨v, fun b pre post Q hq => ?_⟩
        rw [m23_14]
        simp [hlt, k0, k2, k3, b1, b2, b3, o7, own_k23_0, own_k23_1, own_k23_2, own_k23_3, nb0, nb1, ou_a, Option.toList_some, Option.toList_none, List.nil_append, List.cons_append]
        exact hv b pre post Q hq
      · obtain ⟨v, hv⟩ := ih (j + 1) c (.val (.int (getA (A 0) j))) (okS_i _) n1 e1
        refine ⟨v, fun b pre post Q hq => ?_⟩
        rw [m23_14]
        simp [hlt, k0, k3, b1, b2, o7, own_k23_0, own_k23_1, own_k23_2, own_k23_3, nb0, nb1, ou_a, Option.toList_some, Option.toList_none, List.nil_append, List.cons_append]
        exact hv b pre post Q hq
    · obtain ⟨v, hv⟩ := ih (j + 1) c (.val (.int (getA (A 0) j))) (okS_i _) n1 e1
      refine ⟨v, fun b pre post Q hq => ?_⟩
      rw [m23_14]
      simp [hlt, k0, k3, b1, o7, own_k23_0, own_k23_1, own_k23_2, own_k23_3, nb0, nb1, ou_a, Option.toList_some, Option.toList_none, List.nil_append, List.cons_append]
      exact hv b pre post Q hq
theorem g23 (h : LN A) (i m r : Int32) (i0 : ¬ i < 0) (i1 : i < 9) (m0 : 0 ≤ m.toInt) (m1 : m.toInt ≤ 9) : ∃ v : Int32, ∀ (b : Nat) (pre post : AHeap) (Q : Option Value → AHeap → Prop), Q (some (.int v)) (put (b + 1) pre s A post) → M23 0 [.val (.ref (b + 1)), .val (.int i), .val (.int m), .val (.int r), .unset, .unset, .unset, .unset] [] (put (b + 1) pre s A post) Q := by
  have em := Int.toNat_of_nonneg m0
  have k3 := in_lt h z3 i0 i1
  obtain ⟨v, hv⟩ := g23a (s := s) (i := i) (r := r) (p := getA (A 3) i) h m1 m.toInt.toNat 0 0 .unset okS_u (by decide) (by rw [i_0]; omega)
  refine ⟨v, fun b pre post Q hq => ?_⟩
  simp [k3, own_k23_0, own_k23_1, own_k23_2, own_k23_3, nb0, nb1, ou_a, Option.toList_some, Option.toList_none, List.nil_append, List.cons_append]
  exact hv b pre post Q hq
set_option maxRecDepth 1000000 in
set_option maxHeartbeats 20000000 in
theorem g22a (h : LN A) {i m bl bs : Int32} (i0 : ¬ i < 0) (i1 : i < 9) (m0 : 0 ≤ m.toInt) (m1 : m.toInt ≤ 9) : ∀ (n : Nat) (k r : Int32) (k7 : Slot), okS k7 → ¬ k < 0 → k.toInt + n = 842 → ∃ v : Int32, ∀ (b : Nat) (pre post : AHeap) (Q : Option Value → AHeap → Prop), Q (some (.int v)) (put (b + 1) pre s A post) → M22 17 [.val (.ref (b + 1)), .val (.int i), .val (.int m), .val (.int bl), .val (.int bs), .val (.int r), .val (.int k), k7] [] (put (b + 1) pre s A post) Q := by
  intro n
  induction n with
  | zero =>
    intro k r k7 o7 h0 e
    have hge : ¬ k < 842 := by rw [lt_i, i_842]; omega
    refine ⟨-1, fun b pre post Q hq => ?_⟩
    rw [m22_17]
    simp [hge, own_k22_0, own_k22_1, own_k22_2, nb0, nb1, ou_a, Option.toList_some, Option.toList_none, List.nil_append, List.cons_append]
    exact hq
  | succ n ih =>
    intro k r k7 o7 h0 e
    have hlt : k < 842 := by rw [lt_i, i_842]; omega
    have k1 := in_lt h z1 i0 i1
    by_cases b1 : getA (A 1) i < r
    · refine ⟨-1, fun b pre post Q hq => ?_⟩
      rw [m22_17]
      simp [hlt, k1, b1, own_k22_0, own_k22_1, own_k22_2, nb0, nb1, ou_a, Option.toList_some, Option.toList_none, List.nil_append, List.cons_append]
      exact hq
    obtain ⟨w, hw⟩ := g23 (s := s) h i m r i0 i1 m0 m1
    by_cases b2 : bs + w = r
    · refine ⟨r, fun b pre post Q hq => ?_⟩
      rw [m22_17]
      simp [hlt, k1, b1, own_k22_0, own_k22_1, own_k22_2, nb0, nb1, ou_a, Option.toList_some, Option.toList_none, List.nil_append, List.cons_append]
      refine hw b pre post _ ?_
      simp [b2, o7, own_k22_0, own_k22_1, own_k22_2, nb0, nb1, ou_a, Option.toList_some, Option.toList_none, List.nil_append, List.cons_append]
      exact hq
    · obtain ⟨v, hv⟩ := ih (k + 1) (bs + w) (.val (.int (bs + w))) (okS_i _) (succ_nn h0 (by omega)) (by rw [add1_i (by omega)]; omega)
      refine ⟨v, fun b pre post Q hq => ?_⟩
      rw [m22_17]
      simp [hlt, k1, b1, own_k22_0, own_k22_1, own_k22_2, nb0, nb1, ou_a, Option.toList_some, Option.toList_none, List.nil_append, List.cons_append]
      refine hw b pre post _ ?_
      simp [b2, o7, own_k22_0, own_k22_1, own_k22_2, nb0, nb1, ou_a, Option.toList_some, Option.toList_none, List.nil_append, List.cons_append]
      exact hv b pre post Q hq
theorem g22 (h : LN A) (i m bl : Int32) (i0 : ¬ i < 0) (i1 : i < 9) (m0 : 0 ≤ m.toInt) (m1 : m.toInt ≤ 9) : ∃ v : Int32, ∀ (b : Nat) (pre post : AHeap) (Q : Option Value → AHeap → Prop), Q (some (.int v)) (put (b + 1) pre s A post) → M22 0 [.val (.ref (b + 1)), .val (.int i), .val (.int m), .val (.int bl), .unset, .unset, .unset, .unset] [] (put (b + 1) pre s A post) Q := by
  have k2 := in_lt h z2 i0 i1
  obtain ⟨v, hv⟩ := g22a (s := s) (bl := bl) (bs := getA (A 2) i + bl) h i0 i1 m0 m1 842 0 (getA (A 2) i + bl) .unset okS_u (by decide) rfl
  refine ⟨v, fun b pre post Q hq => ?_⟩
  simp [k2, own_k22_0, own_k22_1, own_k22_2, nb0, nb1, ou_a, Option.toList_some, Option.toList_none, List.nil_append, List.cons_append]
  exact hv b pre post Q hq
set_option maxRecDepth 1000000 in
set_option maxHeartbeats 20000000 in
theorem g19a {m : Int32} (m0 : 0 ≤ m.toInt) (m1 : m.toInt ≤ 9) : ∀ (n : Nat) (i : Int32) (k3 k4 : Slot) (A : Nat → List Int32), LN A → okS k3 → okS k4 → ¬ i < 0 → i.toInt + n = m.toInt → ∃ (v : Int32) (A' : Nat → List Int32), (LN A' ∧ (∀ j, j ≠ 12 → j ≠ 13 → A' j = A j) ∧ (v = -1 ∨ (i.toInt ≤ v.toInt ∧ v.toInt < m.toInt))) ∧ ∀ (b : Nat) (pre post : AHeap) (Q : Option Value → AHeap → Prop), Q (some (.int v)) (put (b + 1) pre s A' post) → M19 7 [.val (.ref (b + 1)), .val (.int m), .val (.int i), k3, k4] [] (put (b + 1) pre s A post) Q := by
  intro n
  induction n with
  | zero =>
    intro i k3 k4 A h o3 o4 h0 e
    have hge : ¬ i < m := by rw [lt_i]; omega
    refine ⟨-1, A, ⟨h, fun _ _ _ => rfl, Or.inl rfl⟩, fun b pre post Q hq => ?_⟩
    rw [m19_7]
    simp [hge, own_k19_0, own_k19_1, own_k19_2, own_k19_3, nb0, nb1, ou_a, Option.toList_some, Option.toList_none, List.nil_append, List.cons_append]
    exact hq
  | succ n ih =>
    intro i k3 k4 A h o3 o4 h0 e
    have hlt : i < m := by rw [lt_i]; omega
    have i9 := lt9 hlt m1
    have q12 := in_lt h z12 h0 i9
    have q13 := in_lt h z13 h0 i9
    obtain ⟨c, hc⟩ := g21 (s := s) h i m h0 i9 m0 m1
    have hA1 : LN (ou A 12 (setA (A 12) i c)) := LN_ou h (by simp only [setA_len]; exact h _)
    obtain ⟨w, hw⟩ := g22 (s := s) hA1 i m c h0 i9 m0 m1
    by_cases b1 : w < 0
    · refine ⟨i, ou A 12 (setA (A 12) i c), ⟨hA1, fun j j1 j2 => by rw [ou_a, if_neg j1], Or.inr ⟨Int.le_refl _, by omega⟩⟩, fun b pre post Q hq => ?_⟩
      rw [m19_7]
      simp [hlt, own_k19_0, own_k19_1, own_k19_2, own_k19_3, nb0, nb1, ou_a, Option.toList_some, Option.toList_none, List.nil_append, List.cons_append]
      refine hc b pre post _ ?_
      simp [q12, o3, own_k19_0, own_k19_1, own_k19_2, own_k19_3, nb0, nb1, ou_a, Option.toList_some, Option.toList_none, List.nil_append, List.cons_append]
      refine hw b pre post _ ?_
      simp [b1, o4, own_k19_0, own_k19_1, own_k19_2, own_k19_3, nb0, nb1, ou_a, Option.toList_some, Option.toList_none, List.nil_append, List.cons_append]
      exact hq
    · have hA2 : LN (ou (ou A 12 (setA (A 12) i c)) 13 (setA (A 13) i w)) := LN_ou hA1 (by simp only [setA_len]; exact h _)
      have ei := add1_i (a := i) (by omega)
      obtain ⟨v, A', ⟨g1, g2, g3⟩, hv⟩ := ih (i + 1) (.val (.int c)) (.val (.int w)) _ hA2 (okS_i _) (okS_i _) (succ_nn h0 (by omega)) (by rw [ei]; omega)
      refine ⟨v, A', ⟨g1, fun j j1 j2 => by rw [g2 j j1 j2, ou_a, if_neg j2, ou_a, if_neg j1], ?_⟩, fun b pre post Q hq => ?_⟩
      · rcases g3 with z | ⟨z1, z2⟩
        · exact Or.inl z
        · exact Or.inr ⟨by omega, z2⟩
      · rw [m19_7]
        simp [hlt, own_k19_0, own_k19_1, own_k19_2, own_k19_3, nb0, nb1, ou_a, Option.toList_some, Option.toList_none, List.nil_append, List.cons_append]
        refine hc b pre post _ ?_
        simp [q12, o3, own_k19_0, own_k19_1, own_k19_2, own_k19_3, nb0, nb1, ou_a, Option.toList_some, Option.toList_none, List.nil_append, List.cons_append]
        refine hw b pre post _ ?_
        simp [b1, q13, o4, own_k19_0, own_k19_1, own_k19_2, own_k19_3, nb0, nb1, ou_a, Option.toList_some, Option.toList_none, List.nil_append, List.cons_append]
        exact hv b pre post Q hq
set_option maxRecDepth 1000000 in
set_option maxHeartbeats 20000000 in
theorem g19 {m : Int32} (h : LN A) (m0 : 0 ≤ m.toInt) (m1 : m.toInt ≤ 9) : ∃ (v : Int32) (A' : Nat → List Int32), (LN A' ∧ (∀ j, j ≠ 11 → j ≠ 12 → j ≠ 13 → A' j = A j) ∧ (∀ q : Int32, 0 ≤ q.toInt → q.toInt < 4 → getA (A' 11) q = CEL A q m.toInt.toNat 0 0) ∧ (v = -1 ∨ (0 ≤ v.toInt ∧ v.toInt < m.toInt))) ∧ ∀ (b : Nat) (pre post : AHeap) (Q : Option Value → AHeap → Prop), Q (some (.int v)) (put (b + 1) pre s A' post) → M19 0 [.val (.ref (b + 1)), .val (.int m), .unset, .unset, .unset] [] (put (b + 1) pre s A post) Q := by
  obtain ⟨A1, ⟨h1, h2, h3⟩, hv1⟩ := g20 (s := s) h m0 m1
  have em := Int.toNat_of_nonneg m0
  obtain ⟨v, A', ⟨g1, g2, g3⟩, hv⟩ := g19a (s := s) m0 m1 m.toInt.toNat 0 .unset .unset A1 h1 okS_u okS_u (by decide) (by rw [i_0]; omega)
  refine ⟨v, A', ⟨g1, fun j j1 j2 j3 => by rw [g2 j j2 j3, h2 j j1], fun q p1 p2 => by rw [g2 11 (by decide) (by decide)]; exact h3 q p1 p2, ?_⟩, fun b pre post Q hq => ?_⟩
  · rw [i_0] at g3
    exact g3
  · simp [own_k19_0, own_k19_1, own_k19_2, own_k19_3, nb0, nb1, ou_a, Option.toList_some, Option.toList_none, List.nil_append, List.cons_append]
    refine hv1 b pre post _ ?_
    simp [own_k19_0, own_k19_1, own_k19_2, own_k19_3, nb0, nb1, ou_a, Option.toList_some, Option.toList_none, List.nil_append, List.cons_append]
    exact hv b pre post Q hq
set_option maxRecDepth 1000000 in
set_option maxHeartbeats 20000000 in
theorem g24a {m : Int32} (m1 : m.toInt ≤ 9) : ∀ (n : Nat) (i : Int32) (A : Nat → List Int32), LN A → ¬ i < 0 → i.toInt + n = m.toInt → ∃ (A' : Nat → List Int32), (LN A' ∧ (∀ j, j ≠ 6 → j ≠ 7 → j ≠ 8 → A' j = A j) ∧ (getA (A' 8) 0 = getA (A 11) 0 ∧ getA (A' 8) 1 = getA (A 11) 1 ∧ getA (A' 8) 2 = getA (A 11) 2 ∧ getA (A' 8) 3 = getA (A 11) 3)) ∧ ∀ (b : Nat) (pre post : AHeap) (Q : Option Value → AHeap → Prop), Q none (put (b + 1) pre s A' post) → M24 2 [.val (.ref (b + 1)), .val (.int m), .val (.int i)] [] (put (b + 1) pre s A post) Q := by
  intro n
  induction n with
  | zero =>
    intro i A h h0 e
    have hge : ¬ i < m := by rw [lt_i]; omega
    have y8 : (A 8).length = 4 := (h 8).trans A0l_8
    have y11 : (A 11).length = 4 := (h 11).trans A0l_11
    apply Exists.intro
    refine ⟨?_, fun b pre post Q hq => ?_⟩
    rotate_left 1
    · rw [m24_2]
      simp [hge, inB_iff, setA_len, y8, y11, m24_0, m24_1u, own_k24_0, own_k24_1, m24_39, own_k24_2, nb0, nb1, ou_a, Option.toList_some, Option.toList_none, List.nil_append, List.cons_append]
      exact hq
    · refine ⟨(by (repeat refine LN_ou ?_ (by simp only [setA_len]; exact h _)); exact h), fun j j1 j2 j3 => by simp only [ou_a, if_neg j3], ?_⟩
      simp [ou_a, getA_set2, setA_len, y8]
  | succ n ih =>
    intro i A h h0 e
    have hlt : i < m := by rw [lt_i]; omega
    have i9 := lt9 hlt m1
    have q6 := in_lt h z6 h0 i9
    have q7 := in_lt h z7 h0 i9
    have q12 := in_lt h z12 h0 i9
    have q13 := in_lt h z13 h0 i9
    obtain ⟨A', ⟨g1, g2, g3⟩, hv⟩ := ih (i + 1) (ou (ou A 6 (setA (A 6) i (getA (A 13) i))) 7 (setA (A 7) i (getA (A 12) i))) (LN_ou (LN_ou h (by simp only [setA_len]; exact h _)) (by simp only [setA_len]; exact h _)) (succ_nn h0 (by omega)) (by rw [add1_i (by omega)]; omega)
    refine ⟨A', ⟨g1, fun j j1 j2 j3 => by rw [g2 j j1 j2 j3, ou_a, if_neg j2, ou_a, if_neg j1], g3⟩, fun b pre post Q hq => ?_⟩
    rw [m24_2]
    simp [hlt, q6, q7, q12, q13, m24_0, m24_1u, own_k24_0, own_k24_1, own_k24_2, nb0, nb1, ou_a, Option.toList_some, Option.toList_none, List.nil_append, List.cons_append]
    exact hv b pre post Q hq
theorem g24 {m : Int32} (h : LN A) (m0 : 0 ≤ m.toInt) (m1 : m.toInt ≤ 9) : ∃ (A' : Nat → List Int32), (LN A' ∧ (∀ j, j ≠ 6 → j ≠ 7 → j ≠ 8 → A' j = A j) ∧ (getA (A' 8) 0 = getA (A 11) 0 ∧ getA (A' 8) 1 = getA (A 11) 1 ∧ getA (A' 8) 2 = getA (A 11) 2 ∧ getA (A' 8) 3 = getA (A 11) 3)) ∧ ∀ (b : Nat) (pre post : AHeap) (Q : Option Value → AHeap → Prop), Q none (put (b + 1) pre s A' post) → M24 0 [.val (.ref (b + 1)), .val (.int m), .unset] [] (put (b + 1) pre s A post) Q := by
  have em := Int.toNat_of_nonneg m0
  obtain ⟨A', g', hv⟩ := g24a (s := s) m1 m.toInt.toNat 0 A h (by decide) (by rw [i_0]; omega)
  refine ⟨A', g', fun b pre post Q hq => ?_⟩
  simp [m24_0, m24_1u, own_k24_0, own_k24_1, own_k24_2, nb0, nb1, ou_a, Option.toList_some, Option.toList_none, List.nil_append, List.cons_append]
  exact hv b pre post Q hq
set_option maxRecDepth 1000000 in
set_option maxHeartbeats 20000000 in
theorem g1 (h : LN A) : ∃ (A' : Nat → List Int32), (LN A' ∧ (∀ j, j < 14 → A' j = A j)) ∧ ∀ (b : Nat) (pre post : AHeap) (Q : Option Value → AHeap → Prop), Q none (put (b + 1) pre (ou (ou s 9 0) 10 0) A' post) → M1 0 [.val (.ref (b + 1)), .unset] [] (put (b + 1) pre s A post) Q := by
  have y14 : (A 14).length = 9 := (h 14).trans A0l_14
  have y15 : (A 15).length = 9 := (h 15).trans A0l_15
  have y16 : (A 16).length = 9 := (h 16).trans A0l_16
  have y17 : (A 17).length = 9 := (h 17).trans A0l_17
  have y18 : (A 18).length = 9 := (h 18).trans A0l_18
  have y19 : (A 19).length = 9 := (h 19).trans A0l_19
  apply Exists.intro
  refine ⟨?_, fun b pre post Q hq => ?_⟩
  rotate_left 1
  · simp [inB_iff, setA_len, y14, y15, y16, y17, y18, y19, own_k1_0, m1_12, own_k1_1, own_k1_2, own_k1_3, nb0, nb1, ou_a, Option.toList_some, Option.toList_none, List.nil_append, List.cons_append]
    exact hq
  · exact ⟨(by (repeat refine LN_ou ?_ (by simp only [setA_len]; exact h _)); exact h), fun j hj => by simp only [ou_a, if_neg (show ¬ j = 14 by omega), if_neg (show ¬ j = 15 by omega), if_neg (show ¬ j = 16 by omega), if_neg (show ¬ j = 17 by omega), if_neg (show ¬ j = 18 by omega), if_neg (show ¬ j = 19 by omega)]⟩
def KP (c : Int32) (A A' : Nat → List Int32) : Prop := ∀ i r : Int32, 0 ≤ i.toInt → i.toInt < c.toInt → 0 ≤ r.toInt → r.toInt < 4 → getA (A' 3) i = getA (A 3) i ∧ getA (A' 5) (i * 4 + r) = getA (A 5) (i * 4 + r)
def NW (c q : Int32) (A A' : Nat → List Int32) : Prop := getA (A' 3) c = q ∧ ∀ r : Int32, 0 ≤ r.toInt → r.toInt < 4 → getA (A' 5) (c * 4 + r) = getA (A 10) r ∧ getA (A' 8) r = CEL A' r (c.toInt.toNat + 1) 0 0
def LC (s : Nat → Int32) : Int32 := s 2 / GC 64 (s 2) (s 5) * s 5
theorem k2a (f0 : s 4 = 0) : ∀ (b : Nat) (pre post : AHeap) (Q : Option Value → AHeap → Prop), Q (some (.int (-4))) (put (b + 1) pre s A post) → M2 0 [.val (.ref (b + 1)), .unset, .unset, .unset] [] (put (b + 1) pre s A post) Q := by
  intro b pre post Q hq
  simp [f0, own_k2_0, own_k2_1, own_k2_2, own_k2_3, own_k2_4, nb0, nb1, ou_a, Option.toList_some, Option.toList_none, List.nil_append, List.cons_append]
  exact hq
set_option maxRecDepth 1000000 in
set_option maxHeartbeats 20000000 in
theorem k2 (h : GS s A) (f0 : ¬ s 4 = 0) (f1 : s 1 < 8) (h1 : 1 ≤ (s 2).toInt) (t1 : 1 ≤ (s 5).toInt) :
    (840 < LC s ∧ ∀ (b : Nat) (pre post : AHeap) (Q : Option Value → AHeap → Prop), Q (some (.int (-6))) (put (b + 1) pre (ou (ou s 4 0) 3 (-1)) A post) → M2 0 [.val (.ref (b + 1)), .unset, .unset, .unset] [] (put (b + 1) pre s A post) Q)
    ∨ (¬ 840 < LC s ∧ ∃ (f : Int32) (A' : Nat → List Int32), (LN A' ∧ 0 ≤ f.toInt ∧ f.toInt ≤ (s 1).toInt ∧ KP (s 1) A A' ∧ (∀ j, j = 8 ∨ j = 9 ∨ j = 10 → A' j = A j)) ∧ ∀ (b : Nat) (pre post : AHeap) (Q : Option Value → AHeap → Prop), Q (some (.int (-7))) (put (b + 1) pre (ou (ou s 4 0) 3 f) A' post) → M2 0 [.val (.ref (b + 1)), .unset, .unset, .unset] [] (put (b + 1) pre s A post) Q)
    ∨ (¬ 840 < LC s ∧ ∃ (A' : Nat → List Int32), (LN A' ∧ KP (s 1) A A' ∧ NW (s 1) (s 8) A A') ∧ ∀ (b : Nat) (pre post : AHeap) (Q : Option Value → AHeap → Prop), Q (some (.int (s 1))) (put (b + 1) pre (ou (ou (ou (ou (ou (ou s 1 (s 1 + 1)) 4 0) 2 (LC s)) 3 (-1)) 9 0) 10 0) A' post) → M2 0 [.val (.ref (b + 1)), .unset, .unset, .unset] [] (put (b + 1) pre s A post) Q) := by
  have c0 := h.2.1
  have c1 := h.2.2
  have f1' := f1
  rw [lt_i, i_8] at f1'
  have hlc := g16 (s := s) (A := A) (s 2) (s 5) h1 t1
  by_cases f2 : 840 < LC s
  · refine Or.inl ⟨f2, fun b pre post Q hq => ?_⟩
    simp [f0, f1, own_k2_0, own_k2_1, own_k2_2, own_k2_3, own_k2_4, nb0, nb1, ou_a, Option.toList_some, Option.toList_none, List.nil_append, List.cons_append]
    refine hlc b pre post _ ?_
    unfold LC at f2
    simp [f2, own_k2_0, own_k2_1, own_k2_2, own_k2_3, own_k2_4, nb0, nb1, ou_a, Option.toList_some, Option.toList_none, List.nil_append, List.cons_append]
    exact hq
  have n0 : ¬ s 1 < 0 := by rw [nn_i]; exact c0
  have n9 : s 1 < 9 := by rw [lt_i, i_9]; omega
  have em : (s 1 + 1).toInt = (s 1).toInt + 1 := add1_i (by omega)
  have en : (s 1 + 1).toInt.toNat = (s 1).toInt.toNat + 1 := by rw [em]; omega
  obtain ⟨A1, ⟨a1, p1, p2, p3, p4⟩, hp⟩ := g18 h (s 1) n0 n9
  obtain ⟨f, A2, ⟨a2, q1, q2, q3⟩, ha⟩ := g19 (s := s) (m := s 1 + 1) a1 (by omega) (by omega)
  have kp : KP (s 1) A A2 := fun i r i0 i1 r0 r1 => by
    rw [q1 3 (by decide) (by decide) (by decide), q1 5 (by decide) (by decide) (by decide)]
    exact ⟨p3 i i0 (by omega) (by omega), by rw [p4 i r i0 (by omega) r0 r1, if_neg (by omega)]⟩
  by_cases f3 : f < 0
  · obtain ⟨A3, ⟨a3, d1, d2⟩, hd⟩ := g24 (s := s) (m := s 1 + 1) a2 (by omega) (by omega)
    obtain ⟨A5, ⟨a5, r1⟩, hr⟩ := g1 (s := ou (ou (ou (ou s 1 (s 1 + 1)) 4 0) 2 (LC s)) 3 (-1)) a3
    have e3 : A5 3 = A2 3 := (r1 3 (by decide)).trans (d1 3 (by decide) (by decide) (by decide))
    have e5 : A5 5 = A2 5 := (r1 5 (by decide)).trans (d1 5 (by decide) (by decide) (by decide))
    refine Or.inr (Or.inr ⟨f2, A5, ⟨a5, fun i r i0 i1 r0 r1 => ?_, ?_, fun r r0 r2 => ⟨?_, ?_⟩⟩, fun b pre post Q hq => ?_⟩)
    · rw [e3, e5]
      exact kp i r i0 i1 r0 r1
    · rw [e3, q1 3 (by decide) (by decide) (by decide)]
      exact p2
    · rw [e5, q1 5 (by decide) (by decide) (by decide), p4 (s 1) r c0 (by omega) r0 r2, if_pos rfl]
    · have x3 : A5 3 = A1 3 := e3.trans (q1 3 (by decide) (by decide) (by decide))
      have x5 : A5 5 = A1 5 := e5.trans (q1 5 (by decide) (by decide) (by decide))
      rw [CEL_ext x3 x5, ← en, ← q2 r r0 r2, r1 8 (by decide)]
      rcases r4 r0 r2 with rfl | rfl | rfl | rfl
      · exact d2.1
      · exact d2.2.1
      · exact d2.2.2.1
      · exact d2.2.2.2
    · have f4 := f2
      unfold LC at f4
      simp [f0, f1, own_k2_0, own_k2_1, own_k2_2, own_k2_3, own_k2_4, nb0, nb1, ou_a, Option.toList_some, Option.toList_none, List.nil_append, List.cons_append]
      refine hlc b pre post _ ?_
      simp [f4, own_k2_0, own_k2_1, own_k2_2, own_k2_3, own_k2_4, nb0, nb1, ou_a, Option.toList_some, Option.toList_none, List.nil_append, List.cons_append]
      refine hp b pre post _ ?_
      simp [own_k2_0, own_k2_1, own_k2_2, own_k2_3, own_k2_4, nb0, nb1, ou_a, Option.toList_some, Option.toList_none, List.nil_append, List.cons_append]
      refine ha b pre post _ ?_
      simp [f3, own_k2_0, own_k2_1, own_k2_2, own_k2_3, own_k2_4, nb0, nb1, ou_a, Option.toList_some, Option.toList_none, List.nil_append, List.cons_append]
      refine hd b pre post _ ?_
      simp [own_k2_0, own_k2_1, own_k2_2, own_k2_3, own_k2_4, nb0, nb1, ou_a, Option.toList_some, Option.toList_none, List.nil_append, List.cons_append]
      refine hr b pre post _ ?_
      try simp [own_k2_0, own_k2_1, own_k2_2, own_k2_3, own_k2_4, nb0, nb1, ou_a, Option.toList_some, Option.toList_none, List.nil_append, List.cons_append]
      exact hq
  · have f5 : 0 ≤ f.toInt ∧ f.toInt < (s 1 + 1).toInt := by
      rcases q3 with z | z
      · rw [z] at f3
        exact absurd (by decide) f3
      · exact z
    refine Or.inr (Or.inl ⟨f2, f, A2, ⟨a2, f5.1, by omega, kp, fun j hj => ?_⟩, fun b pre post Q hq => ?_⟩)
    · rw [q1 j (by omega) (by omega) (by omega), p1 j (by omega)]
    · have f4 := f2
      unfold LC at f4
      simp [f0, f1, own_k2_0, own_k2_1, own_k2_2, own_k2_3, own_k2_4, nb0, nb1, ou_a, Option.toList_some, Option.toList_none, List.nil_append, List.cons_append]
      refine hlc b pre post _ ?_
      simp [f4, own_k2_0, own_k2_1, own_k2_2, own_k2_3, own_k2_4, nb0, nb1, ou_a, Option.toList_some, Option.toList_none, List.nil_append, List.cons_append]
      refine hp b pre post _ ?_
      simp [own_k2_0, own_k2_1, own_k2_2, own_k2_3, own_k2_4, nb0, nb1, ou_a, Option.toList_some, Option.toList_none, List.nil_append, List.cons_append]
      refine ha b pre post _ ?_
      simp [f3, own_k2_0, own_k2_1, own_k2_2, own_k2_3, own_k2_4, nb0, nb1, ou_a, Option.toList_some, Option.toList_none, List.nil_append, List.cons_append]
      exact hq
def LT (AB A : Nat → List Int32) : Prop := LN A ∧ ∀ j, j < 14 → A j = AB j
theorem LT_ou {AB A : Nat → List Int32} {j : Nat} {l : List Int32} (h : LT AB A) (hl : l.length = (A0 j).length) (hj : 14 ≤ j) : LT AB (ou A j l) := ⟨LN_ou h.1 hl, fun i hi => by rw [ou_a, if_neg (by omega)]; exact h.2 i hi⟩
abbrev GT (AB : Nat → List Int32) (s : Nat → Int32) (A : Nat → List Int32) : Prop := LT AB A ∧ 0 ≤ (s 1).toInt ∧ (s 1).toInt ≤ 8
variable {AB : Nat → List Int32}
set_option maxRecDepth 1000000 in
set_option maxHeartbeats 20000000 in
theorem g27a : ∀ (n : Nat) (i : Int32) (k2 : Slot) (A : Nat → List Int32), GT AB s A → okS k2 → ¬ i < 0 → i.toInt + n = (s 1).toInt → ∃ (A' : Nat → List Int32), GT AB s A' ∧ ∀ (b : Nat) (pre post : AHeap) (Q : Option Value → AHeap → Prop), Q none (put (b + 1) pre s A' post) → M27 2 [.val (.ref (b + 1)), .val (.int i), k2] [] (put (b + 1) pre s A post) Q := by
  intro n
  induction n with
  | zero =>
    intro i k2 A h o2 h0 e
    have hge : ¬ i < s 1 := by rw [lt_i]; omega
    refine ⟨A, h, fun b pre post Q hq => ?_⟩
    rw [m27_2]
    simp [hge, m27_0, m27_1u, own_k27_0, own_k27_1, own_k27_2, nb0, nb1, ou_a, Option.toList_some, Option.toList_none, List.nil_append, List.cons_append]
    exact hq
  | succ n ih =>
    intro i k2 A h o2 h0 e
    have c1 := h.2.2
    have hlt : i < s 1 := by rw [lt_i]; omega
    have i9 := lt9 hlt (by omega)
    have q0 := in_lt h.1.1 z0 h0 i9
    have q14 := in_lt h.1.1 z14 h0 i9
    have q15 := in_lt h.1.1 z15 h0 i9
    have q16 := in_lt h.1.1 z16 h0 i9
    have q17 := in_lt h.1.1 z17 h0 i9
    have n1 := succ_nn h0 (by omega)
    have e1 : (i + 1).toInt + n = (s 1).toInt := by rw [add1_i (by omega)]; omega
    by_cases b1 : 0 < getA (A 0) i
    · have b0 := ne0_pos b1
      by_cases b2 : s 9 % getA (A 0) i = 0
      · obtain ⟨A', g', hv⟩ := ih (i + 1) (.val (.int (getA (A 0) i))) (ou (ou (ou (ou A 14 (setA (A 14) i 1)) 15 (setA (A 15) i (s 9))) 16 (setA (A 16) i 0)) 17 (setA (A 17) i (-1))) ⟨(by have h := h.1; exact (by (repeat refine LT_ou ?_ (by simp only [setA_len]; exact h.1 _) (by decide)); exact h)), h.2.1, h.2.2⟩ (okS_i _) n1 e1
        refine ⟨A', g', fun b pre post Q hq => ?_⟩
        rw [m27_2]
        simp [hlt, q0, q14, q15, q16, q17, b0, b1, b2, o2, m27_0, m27_1u, own_k27_0, own_k27_1, own_k27_2, nb0, nb1, ou_a, Option.toList_some, Option.toList_none, List.nil_append, List.cons_append]
        exact hv b pre post Q hq
      · obtain ⟨A', g', hv⟩ := ih (i + 1) (.val (.int (getA (A 0) i))) A h (okS_i _) n1 e1
        refine ⟨A', g', fun b pre post Q hq => ?_⟩
        rw [m27_2]
        simp [hlt, q0, b0, b1, b2, o2, m27_0, m27_1u, own_k27_0, own_k27_1, own_k27_2, nb0, nb1, ou_a, Option.toList_some, Option.toList_none, List.nil_append, List.cons_append]
        exact hv b pre post Q hq
    · obtain ⟨A', g', hv⟩ := ih (i + 1) (.val (.int (getA (A 0) i))) A h (okS_i _) n1 e1
      refine ⟨A', g', fun b pre post Q hq => ?_⟩
      rw [m27_2]
      simp [hlt, q0, b1, o2, m27_0, m27_1u, own_k27_0, own_k27_1, own_k27_2, nb0, nb1, ou_a, Option.toList_some, Option.toList_none, List.nil_append, List.cons_append]
      exact hv b pre post Q hq
theorem g27 (h : GT AB s A) : ∃ (A' : Nat → List Int32), GT AB s A' ∧ ∀ (b : Nat) (pre post : AHeap) (Q : Option Value → AHeap → Prop), Q none (put (b + 1) pre s A' post) → M27 0 [.val (.ref (b + 1)), .unset, .unset] [] (put (b + 1) pre s A post) Q := by
  have em := Int.toNat_of_nonneg h.2.1
  obtain ⟨A', g', hv⟩ := g27a (s := s) (s 1).toInt.toNat 0 .unset A h okS_u (by decide) (by rw [i_0]; omega)
  refine ⟨A', g', fun b pre post Q hq => ?_⟩
  simp [m27_0, m27_1u, own_k27_0, own_k27_1, own_k27_2, nb0, nb1, ou_a, Option.toList_some, Option.toList_none, List.nil_append, List.cons_append]
  exact hv b pre post Q hq
set_option maxRecDepth 1000000 in
set_option maxHeartbeats 20000000 in
theorem g29 (h : LN A) (i : Int32) (i0 : ¬ i < 0) (i1 : i < 9) : ∃ v : Int32, ∀ (b : Nat) (pre post : AHeap) (Q : Option Value → AHeap → Prop), Q (some (.int v)) (put (b + 1) pre s A post) → M29 0 [.val (.ref (b + 1)), .val (.int i), .unset] [] (put (b + 1) pre s A post) Q := by
  have q17 := in_lt h z17 i0 i1
  have q3 := in_lt h z3 i0 i1
  by_cases b1 : getA (A 17) i < 0
  · exact ⟨getA (A 3) i, fun b pre post Q hq => by simp [b1, q17, q3, own_k29_0, own_k29_1, nb0, nb1, ou_a, Option.toList_some, Option.toList_none, List.nil_append, List.cons_append]; exact hq⟩
  by_cases b2 : getA (A 17) i < 4
  · have q8 := in_lt h z8 b1 b2
    exact ⟨getA (A 8) (getA (A 17) i), fun b pre post Q hq => by simp [b1, b2, q17, q8, own_k29_0, own_k29_1, nb0, nb1, ou_a, Option.toList_some, Option.toList_none, List.nil_append, List.cons_append]; exact hq⟩
  · exact ⟨getA (A 3) i, fun b pre post Q hq => by simp [b1, b2, q17, q3, own_k29_0, own_k29_1, nb0, nb1, ou_a, Option.toList_some, Option.toList_none, List.nil_append, List.cons_append]; exact hq⟩
set_option maxRecDepth 1000000 in
set_option maxHeartbeats 20000000 in
theorem g28a (h : LN A) (c1 : (s 1).toInt ≤ 8) : ∀ (n : Nat) (i bs ba bh : Int32) (k5 k6 : Slot), okS k5 → okS k6 → (bs < 0 ∨ (¬ bs < 0 ∧ bs < i)) → ¬ i < 0 → i.toInt + n = (s 1).toInt → ∃ v : Int32, (v < 0 ∨ (¬ v < 0 ∧ v < s 1)) ∧ ∀ (b : Nat) (pre post : AHeap) (Q : Option Value → AHeap → Prop), Q (some (.int v)) (put (b + 1) pre s A post) → M28 9 [.val (.ref (b + 1)), .val (.int bs), .val (.int ba), .val (.int bh), .val (.int i), k5, k6] [] (put (b + 1) pre s A post) Q := by
  intro n
  induction n with
  | zero =>
    intro i bs ba bh k5 k6 o5 o6 iv h0 e
    have hi : i = s 1 := Int32.toInt_inj.mp (by omega)
    refine ⟨bs, by rw [← hi]; exact iv, fun b pre post Q hq => ?_⟩
    rw [m28_9]
    simp [hi, lt_irr, own_k28_0, own_k28_1, own_k28_2, own_k28_3, m28_96, m28_97, nb0, nb1, ou_a, Option.toList_some, Option.toList_none, List.nil_append, List.cons_append]
    exact hq
  | succ n ih =>
    intro i bs ba bh k5 k6 o5 o6 iv h0 e
    have hlt : i < s 1 := by rw [lt_i]; omega
    have i9 := lt9 hlt (by omega)
    have q14 := in_lt h z14 h0 i9
    have q17 := in_lt h z17 h0 i9
    have n1 := succ_nn h0 (by omega)
    have e2 : (i + 1).toInt = i.toInt + 1 := add1_i (by omega)
    have e1 : (i + 1).toInt + n = (s 1).toInt := by omega
    have iv2 : bs < 0 ∨ (¬ bs < 0 ∧ bs < i + 1) := by
      rcases iv with q | ⟨q1, q2⟩
      · exact Or.inl q
      · refine Or.inr ⟨q1, ?_⟩
        rw [lt_i] at *
        omega
    by_cases p0 : getA (A 14) i = 0
    · obtain ⟨v, pv, hv⟩ := ih (i + 1) bs ba bh k5 k6 o5 o6 iv2 n1 e1
      refine ⟨v, pv, fun b pre post Q hq => ?_⟩
      rw [m28_9]
      simp [hlt, q14, p0, own_k28_0, own_k28_1, own_k28_2, own_k28_3, m28_96, m28_97, nb0, nb1, ou_a, Option.toList_some, Option.toList_none, List.nil_append, List.cons_append]
      exact hv b pre post Q hq
    obtain ⟨ap, hap⟩ := g29 (s := s) h i h0 i9
    by_cases g0 : getA (A 17) i < 0
    · by_cases b1 : bs < 0
      · obtain ⟨v, pv, hv⟩ := ih (i + 1) i ap 0 (.val (.int ap)) (.val (.int 0)) (okS_i _) (okS_i _) (Or.inr ⟨h0, by rw [lt_i, e2]; omega⟩) n1 e1
        refine ⟨v, pv, fun b pre post Q hq => ?_⟩
        rw [m28_9]
        simp [hlt, q14, p0, own_k28_0, own_k28_1, own_k28_2, own_k28_3, m28_96, m28_97, nb0, nb1, ou_a, Option.toList_some, Option.toList_none, List.nil_append, List.cons_append]
        refine hap b pre post _ ?_
        simp [q17, o5, o6, g0, b1, own_k28_0, own_k28_1, own_k28_2, own_k28_3, m28_96, m28_97, nb0, nb1, ou_a, Option.toList_some, Option.toList_none, List.nil_append, List.cons_append]
        exact hv b pre post Q hq
      by_cases b2 : ba < ap
      · obtain ⟨v, pv, hv⟩ := ih (i + 1) i ap 0 (.val (.int ap)) (.val (.int 0)) (okS_i _) (okS_i _) (Or.inr ⟨h0, by rw [lt_i, e2]; omega⟩) n1 e1
        refine ⟨v, pv, fun b pre post Q hq => ?_⟩
        rw [m28_9]
        simp [hlt, q14, p0, own_k28_0, own_k28_1, own_k28_2, own_k28_3, m28_96, m28_97, nb0, nb1, ou_a, Option.toList_some, Option.toList_none, List.nil_append, List.cons_append]
        refine hap b pre post _ ?_
        simp [q17, o5, o6, g0, b1, b2, own_k28_0, own_k28_1, own_k28_2, own_k28_3, m28_96, m28_97, nb0, nb1, ou_a, Option.toList_some, Option.toList_none, List.nil_append, List.cons_append]
        exact hv b pre post Q hq
      by_cases b3 : ap = ba
      · obtain ⟨v, pv, hv⟩ := ih (i + 1) bs ba bh (.val (.int ap)) (.val (.int 0)) (okS_i _) (okS_i _) (iv2 : bs < 0 ∨ (¬ bs < 0 ∧ bs < i + 1)) n1 e1
        refine ⟨v, pv, fun b pre post Q hq => ?_⟩
        rw [m28_9]
        simp [hlt, q14, p0, own_k28_0, own_k28_1, own_k28_2, own_k28_3, m28_96, m28_97, nb0, nb1, ou_a, Option.toList_some, Option.toList_none, List.nil_append, List.cons_append]
        refine hap b pre post _ ?_
        simp [q17, o5, o6, g0, b1, b2, eq_true b3, own_k28_0, own_k28_1, own_k28_2, own_k28_3, m28_96, m28_97, nb0, nb1, ou_a, Option.toList_some, Option.toList_none, List.nil_append, List.cons_append]
        exact hv b pre post Q hq
      obtain ⟨v, pv, hv⟩ := ih (i + 1) bs ba bh (.val (.int ap)) (.val (.int 0)) (okS_i _) (okS_i _) (iv2 : bs < 0 ∨ (¬ bs < 0 ∧ bs < i + 1)) n1 e1
      refine ⟨v, pv, fun b pre post Q hq => ?_⟩
      rw [m28_9]
      simp [hlt, q14, p0, own_k28_0, own_k28_1, own_k28_2, own_k28_3, m28_96, m28_97, nb0, nb1, ou_a, Option.toList_some, Option.toList_none, List.nil_append, List.cons_append]
      refine hap b pre post _ ?_
      simp [q17, o5, o6, g0, b1, b2, b3, own_k28_0, own_k28_1, own_k28_2, own_k28_3, m28_96, m28_97, nb0, nb1, ou_a, Option.toList_some, Option.toList_none, List.nil_append, List.cons_append]
      exact hv b pre post Q hq
    by_cases b1 : bs < 0
    · obtain ⟨v, pv, hv⟩ := ih (i + 1) i ap 1 (.val (.int ap)) (.val (.int 1)) (okS_i _) (okS_i _) (Or.inr ⟨h0, by rw [lt_i, e2]; omega⟩) n1 e1
      refine ⟨v, pv, fun b pre post Q hq => ?_⟩
      rw [m28_9]
      simp [hlt, q14, p0, own_k28_0, own_k28_1, own_k28_2, own_k28_3, m28_96, m28_97, nb0, nb1, ou_a, Option.toList_some, Option.toList_none, List.nil_append, List.cons_append]
      refine hap b pre post _ ?_
      simp [q17, o5, o6, g0, b1, own_k28_0, own_k28_1, own_k28_2, own_k28_3, m28_96, m28_97, nb0, nb1, ou_a, Option.toList_some, Option.toList_none, List.nil_append, List.cons_append]
      exact hv b pre post Q hq
    by_cases b2 : ba < ap
    · obtain ⟨v, pv, hv⟩ := ih (i + 1) i ap 1 (.val (.int ap)) (.val (.int 1)) (okS_i _) (okS_i _) (Or.inr ⟨h0, by rw [lt_i, e2]; omega⟩) n1 e1
      refine ⟨v, pv, fun b pre post Q hq => ?_⟩
      rw [m28_9]
      simp [hlt, q14, p0, own_k28_0, own_k28_1, own_k28_2, own_k28_3, m28_96, m28_97, nb0, nb1, ou_a, Option.toList_some, Option.toList_none, List.nil_append, List.cons_append]
      refine hap b pre post _ ?_
      simp [q17, o5, o6, g0, b1, b2, own_k28_0, own_k28_1, own_k28_2, own_k28_3, m28_96, m28_97, nb0, nb1, ou_a, Option.toList_some, Option.toList_none, List.nil_append, List.cons_append]
      exact hv b pre post Q hq
    by_cases b3 : ap = ba
    · by_cases b4 : bh = 0
      · obtain ⟨v, pv, hv⟩ := ih (i + 1) i ap 1 (.val (.int ap)) (.val (.int 1)) (okS_i _) (okS_i _) (Or.inr ⟨h0, by rw [lt_i, e2]; omega⟩) n1 e1
        refine ⟨v, pv, fun b pre post Q hq => ?_⟩
        rw [m28_9]
        simp [hlt, q14, p0, own_k28_0, own_k28_1, own_k28_2, own_k28_3, m28_96, m28_97, nb0, nb1, ou_a, Option.toList_some, Option.toList_none, List.nil_append, List.cons_append]
        refine hap b pre post _ ?_
        simp [q17, o5, o6, g0, b1, b2, eq_true b3, b4, own_k28_0, own_k28_1, own_k28_2, own_k28_3, m28_96, m28_97, nb0, nb1, ou_a, Option.toList_some, Option.toList_none, List.nil_append, List.cons_append]
        exact hv b pre post Q hq
      · obtain ⟨v, pv, hv⟩ := ih (i + 1) bs ba bh (.val (.int ap)) (.val (.int 1)) (okS_i _) (okS_i _) (iv2 : bs < 0 ∨ (¬ bs < 0 ∧ bs < i + 1)) n1 e1
        refine ⟨v, pv, fun b pre post Q hq => ?_⟩
        rw [m28_9]
        simp [hlt, q14, p0, own_k28_0, own_k28_1, own_k28_2, own_k28_3, m28_96, m28_97, nb0, nb1, ou_a, Option.toList_some, Option.toList_none, List.nil_append, List.cons_append]
        refine hap b pre post _ ?_
        simp [q17, o5, o6, g0, b1, b2, eq_true b3, b4, own_k28_0, own_k28_1, own_k28_2, own_k28_3, m28_96, m28_97, nb0, nb1, ou_a, Option.toList_some, Option.toList_none, List.nil_append, List.cons_append]
        exact hv b pre post Q hq
    obtain ⟨v, pv, hv⟩ := ih (i + 1) bs ba bh (.val (.int ap)) (.val (.int 1)) (okS_i _) (okS_i _) (iv2 : bs < 0 ∨ (¬ bs < 0 ∧ bs < i + 1)) n1 e1
    refine ⟨v, pv, fun b pre post Q hq => ?_⟩
    rw [m28_9]
    simp [hlt, q14, p0, own_k28_0, own_k28_1, own_k28_2, own_k28_3, m28_96, m28_97, nb0, nb1, ou_a, Option.toList_some, Option.toList_none, List.nil_append, List.cons_append]
    refine hap b pre post _ ?_
    simp [q17, o5, o6, g0, b1, b2, b3, own_k28_0, own_k28_1, own_k28_2, own_k28_3, m28_96, m28_97, nb0, nb1, ou_a, Option.toList_some, Option.toList_none, List.nil_append, List.cons_append]
    exact hv b pre post Q hq
theorem g28 (h : GS s A) : ∃ v : Int32, (v < 0 ∨ (¬ v < 0 ∧ v < s 1)) ∧ ∀ (b : Nat) (pre post : AHeap) (Q : Option Value → AHeap → Prop), Q (some (.int v)) (put (b + 1) pre s A post) → M28 0 [.val (.ref (b + 1)), .unset, .unset, .unset, .unset, .unset, .unset] [] (put (b + 1) pre s A post) Q := by
  have em := Int.toNat_of_nonneg h.2.1
  obtain ⟨v, pv, hv⟩ := g28a (s := s) h.1 h.2.2 (s 1).toInt.toNat 0 (-1) (-1) 0 .unset .unset okS_u okS_u (Or.inl (by decide)) (by decide) (by rw [i_0]; omega)
  refine ⟨v, pv, fun b pre post Q hq => ?_⟩
  simp [own_k28_0, own_k28_1, own_k28_2, own_k28_3, m28_96, m28_97, nb0, nb1, ou_a, Option.toList_some, Option.toList_none, List.nil_append, List.cons_append]
  exact hv b pre post Q hq
set_option maxRecDepth 1000000 in
set_option maxHeartbeats 20000000 in
theorem g31a (h : GT AB s A) {i : Int32} (i0 : ¬ i < 0) (i1 : i < 9) : ∀ (n : Nat) (r : Int32), ¬ r < 0 → r.toInt + n = 4 → ∃ (A' : Nat → List Int32), GT AB s A' ∧ ∀ (b : Nat) (pre post : AHeap) (Q : Option Value → AHeap → Prop), Q none (put (b + 1) pre s A' post) → M31 12 [.val (.ref (b + 1)), .val (.int i), .val (.int r)] [] (put (b + 1) pre s A post) Q := by
  intro n
  induction n with
  | zero =>
    intro r h0 e
    have hge : ¬ r < 4 := by rw [lt_i, i_4]; omega
    refine ⟨A, h, fun b pre post Q hq => ?_⟩
    rw [m31_12]
    simp [hge, own_k31_0, own_k31_1, own_k31_2, m31_63, nb0, nb1, ou_a, Option.toList_some, Option.toList_none, List.nil_append, List.cons_append]
    exact hq
  | succ n ih =>
    intro r h0 e
    have hlt : r < 4 := by rw [lt_i, i_4]; omega
    have x := idx4 i0 i1 h0 hlt
    have q4 := in_lt h.1.1 z4 x.1 x.2
    have q5 := in_lt h.1.1 z5 x.1 x.2
    have q16 := in_lt h.1.1 z16 i0 i1
    have q17 := in_lt h.1.1 z17 i0 i1
    by_cases b1 : 0 < getA (A 5) (i * 4 + r)
    · by_cases b2 : getA (A 4) (i * 4 + r) = getA (A 16) i
      · refine ⟨ou A 17 (setA (A 17) i r), ⟨LT_ou h.1 (by simp only [setA_len]; exact h.1.1 _) (by decide), h.2.1, h.2.2⟩, fun b pre post Q hq => ?_⟩
        rw [m31_12]
        simp [hlt, q4, q5, q16, q17, b1, b2, own_k31_0, own_k31_1, own_k31_2, m31_63, nb0, nb1, ou_a, Option.toList_some, Option.toList_none, List.nil_append, List.cons_append]
        exact hq
      · obtain ⟨A', g', hv⟩ := ih (r + 1) (succ_nn h0 (by omega)) (by rw [add1_i (by omega)]; omega)
        refine ⟨A', g', fun b pre post Q hq => ?_⟩
        rw [m31_12]
        simp [hlt, q4, q5, q16, b1, b2, own_k31_0, own_k31_1, own_k31_2, m31_63, nb0, nb1, ou_a, Option.toList_some, Option.toList_none, List.nil_append, List.cons_append]
        exact hv b pre post Q hq
    · obtain ⟨A', g', hv⟩ := ih (r + 1) (succ_nn h0 (by omega)) (by rw [add1_i (by omega)]; omega)
      refine ⟨A', g', fun b pre post Q hq => ?_⟩
      rw [m31_12]
      simp [hlt, q5, b1, own_k31_0, own_k31_1, own_k31_2, m31_63, nb0, nb1, ou_a, Option.toList_some, Option.toList_none, List.nil_append, List.cons_append]
      exact hv b pre post Q hq
set_option maxRecDepth 1000000 in
set_option maxHeartbeats 20000000 in
theorem g31 (h : GT AB s A) (i : Int32) (i0 : ¬ i < 0) (i1 : i < 9) : ∃ (A' : Nat → List Int32), GT AB s A' ∧ ∀ (b : Nat) (pre post : AHeap) (Q : Option Value → AHeap → Prop), Q none (put (b + 1) pre s A' post) → M31 0 [.val (.ref (b + 1)), .val (.int i), .unset] [] (put (b + 1) pre s A post) Q := by
  have q17 := in_lt h.1.1 z17 i0 i1
  by_cases b1 : getA (A 17) i < 0
  · obtain ⟨A', g', hv⟩ := g31a (s := s) h i0 i1 4 0 (by decide) rfl
    refine ⟨A', g', fun b pre post Q hq => ?_⟩
    simp [b1, q17, own_k31_0, own_k31_1, own_k31_2, m31_63, nb0, nb1, ou_a, Option.toList_some, Option.toList_none, List.nil_append, List.cons_append]
    exact hv b pre post Q hq
  · exact ⟨A, h, fun b pre post Q hq => by simp [b1, q17, own_k31_0, own_k31_1, own_k31_2, m31_63, nb0, nb1, ou_a, Option.toList_some, Option.toList_none, List.nil_append, List.cons_append]; exact hq⟩
set_option maxRecDepth 1000000 in
set_option maxHeartbeats 20000000 in
theorem g33 (h : GT AB s A) (i : Int32) (i0 : ¬ i < 0) (i1 : i < 9) : ∃ (A' : Nat → List Int32), GT AB s A' ∧ ∀ (b : Nat) (pre post : AHeap) (Q : Option Value → AHeap → Prop), Q none (put (b + 1) pre s A' post) → M33 0 [.val (.ref (b + 1)), .val (.int i), .unset] [] (put (b + 1) pre s A post) Q := by
  have q14 := in_lt h.1.1 z14 i0 i1
  have q15 := in_lt h.1.1 z15 i0 i1
  have q17 := in_lt h.1.1 z17 i0 i1
  have q18 := in_lt h.1.1 z18 i0 i1
  have q19 := in_lt h.1.1 z19 i0 i1
  by_cases b1 : getA (A 19) i < s 9 + 1 - getA (A 15) i
  · apply Exists.intro
    refine ⟨?_, fun b pre post Q hq => ?_⟩
    rotate_left 1
    · simp [b1, q14, q15, q17, q18, q19, own_k33_0, own_k33_1, own_k33_2, nb0, nb1, ou_a, Option.toList_some, Option.toList_none, List.nil_append, List.cons_append]
      exact hq
    · refine ⟨?_, h.2.1, h.2.2⟩
      have h := h.1
      exact (by (repeat refine LT_ou ?_ (by simp only [setA_len]; exact h.1 _) (by decide)); exact h)
  · apply Exists.intro
    refine ⟨?_, fun b pre post Q hq => ?_⟩
    rotate_left 1
    · simp [b1, q14, q15, q17, q18, q19, own_k33_0, own_k33_1, own_k33_2, nb0, nb1, ou_a, Option.toList_some, Option.toList_none, List.nil_append, List.cons_append]
      exact hq
    · refine ⟨?_, h.2.1, h.2.2⟩
      have h := h.1
      exact (by (repeat refine LT_ou ?_ (by simp only [setA_len]; exact h.1 _) (by decide)); exact h)
set_option maxRecDepth 1000000 in
set_option maxHeartbeats 20000000 in
theorem g30b (h : GT AB s A) (i : Int32) (i0 : ¬ i < 0) (i1 : i < 9) (k2 : Slot) : ∃ (A' : Nat → List Int32), GT AB s A' ∧ ∀ (b : Nat) (pre post : AHeap) (Q : Option Value → AHeap → Prop), Q none (put (b + 1) pre s A' post) → M30 72 [.val (.ref (b + 1)), .val (.int i), k2] [] (put (b + 1) pre s A post) Q := by
  have q2 := in_lt h.1.1 z2 i0 i1
  have q16 := in_lt h.1.1 z16 i0 i1
  by_cases b1 : getA (A 16) i = getA (A 2) i
  · obtain ⟨A', g', hv⟩ := g33 h i i0 i1
    refine ⟨A', g', fun b pre post Q hq => ?_⟩
    simp [b1, q2, q16, own_k30_0, own_k30_1, own_k30_2, own_k30_3, nb0, nb1, ou_a, Option.toList_some, Option.toList_none, List.nil_append, List.cons_append]
    refine hv b pre post _ ?_
    simp [own_k30_0, own_k30_1, own_k30_2, own_k30_3, nb0, nb1, ou_a, Option.toList_some, Option.toList_none, List.nil_append, List.cons_append]
    exact hq
  · exact ⟨A, h, fun b pre post Q hq => by simp [b1, q2, q16, own_k30_0, own_k30_1, own_k30_2, own_k30_3, nb0, nb1, ou_a, Option.toList_some, Option.toList_none, List.nil_append, List.cons_append]; exact hq⟩
set_option maxRecDepth 1000000 in
set_option maxHeartbeats 20000000 in
theorem g30a (h : GT AB s A) (i : Int32) (i0 : ¬ i < 0) (i1 : i < 9) : ∃ (A' : Nat → List Int32), GT AB s A' ∧ ∀ (b : Nat) (pre post : AHeap) (Q : Option Value → AHeap → Prop), Q none (put (b + 1) pre s A' post) → M30 5 [.val (.ref (b + 1)), .val (.int i), .unset] [] (put (b + 1) pre s A post) Q := by
  have q16 := in_lt h.1.1 z16 i0 i1
  have q17 := in_lt h.1.1 z17 i0 i1
  have h1 : GT AB s (ou A 16 (setA (A 16) i (getA (A 16) i + 1))) := ⟨LT_ou h.1 (by simp only [setA_len]; exact h.1.1 _) (by decide), h.2.1, h.2.2⟩
  by_cases b1 : getA (A 17) i < 0
  · obtain ⟨A', g', hv⟩ := g30b h1 i i0 i1 (.val (.int (getA (A 17) i)))
    refine ⟨A', g', fun b pre post Q hq => ?_⟩
    simp [b1, q16, q17, own_k30_0, own_k30_1, own_k30_2, m30_70, m30_71, m30_73, m30_76, m30_77, m30_78, m30_79, m30_82, m30_83, m30_84, m30_87, m30_88, m30_89, m30_92, nb0, nb1, ou_a, Option.toList_some, Option.toList_none, List.nil_append, List.cons_append]
    exact hv b pre post Q hq
  by_cases b2 : getA (A 17) i < 4
  · have x := idx4 i0 i1 b1 b2
    have q4 := in_lt h.1.1 z4 x.1 x.2
    have q5 := in_lt h.1.1 z5 x.1 x.2
    by_cases b3 : getA (setA (A 16) i (getA (A 16) i + 1)) i = getA (A 4) (i * 4 + getA (A 17) i) + getA (A 5) (i * 4 + getA (A 17) i)
    · obtain ⟨A', g', hv⟩ := g30b (s := s) (A := ou (ou A 16 (setA (A 16) i (getA (A 16) i + 1))) 17 (setA (A 17) i (-1))) ⟨LT_ou h1.1 (by simp only [setA_len]; exact h.1.1 _) (by decide), h.2.1, h.2.2⟩ i i0 i1 (.val (.int (getA (A 17) i)))
      refine ⟨A', g', fun b pre post Q hq => ?_⟩
      simp [b1, b2, b3, q4, q5, q16, q17, inB_set, own_k30_0, own_k30_1, own_k30_2, m30_70, m30_71, m30_73, m30_76, m30_77, m30_78, m30_79, m30_82, m30_83, m30_84, m30_87, m30_88, m30_89, m30_92, nb0, nb1, ou_a, Option.toList_some, Option.toList_none, List.nil_append, List.cons_append]
      exact hv b pre post Q hq
    · obtain ⟨A', g', hv⟩ := g30b h1 i i0 i1 (.val (.int (getA (A 17) i)))
      refine ⟨A', g', fun b pre post Q hq => ?_⟩
      simp [b1, b2, b3, q4, q5, q16, q17, inB_set, own_k30_0, own_k30_1, own_k30_2, m30_70, m30_71, m30_73, m30_76, m30_77, m30_78, m30_79, m30_82, m30_83, m30_84, m30_87, m30_88, m30_89, m30_92, nb0, nb1, ou_a, Option.toList_some, Option.toList_none, List.nil_append, List.cons_append]
      exact hv b pre post Q hq
  · obtain ⟨A', g', hv⟩ := g30b h1 i i0 i1 (.val (.int (getA (A 17) i)))
    refine ⟨A', g', fun b pre post Q hq => ?_⟩
    simp [b1, b2, q16, q17, own_k30_0, own_k30_1, own_k30_2, m30_70, m30_71, m30_73, m30_76, m30_77, m30_78, m30_79, m30_82, m30_83, m30_84, m30_87, m30_88, m30_89, m30_92, nb0, nb1, ou_a, Option.toList_some, Option.toList_none, List.nil_append, List.cons_append]
    exact hv b pre post Q hq
set_option maxRecDepth 1000000 in
set_option maxHeartbeats 20000000 in
theorem g30 (h : GT AB s A) (i : Int32) (i0 : ¬ i < 0) (i1 : i < 9) : ∃ (A' : Nat → List Int32), GT AB s A' ∧ ∀ (b : Nat) (pre post : AHeap) (Q : Option Value → AHeap → Prop), Q none (put (b + 1) pre s A' post) → M30 0 [.val (.ref (b + 1)), .val (.int i), .unset] [] (put (b + 1) pre s A post) Q := by
  obtain ⟨A1, h1, hv1⟩ := g31 h i i0 i1
  obtain ⟨A2, h2, hv2⟩ := g30a h1 i i0 i1
  refine ⟨A2, h2, fun b pre post Q hq => ?_⟩
  simp [m30_0, m30_1, m30_2, nb0, nb1, ou_a, Option.toList_some, Option.toList_none, List.nil_append, List.cons_append]
  refine hv1 b pre post _ ?_
  simp [nb0, nb1, ou_a, Option.toList_some, Option.toList_none, List.nil_append, List.cons_append]
  exact hv2 b pre post Q hq
set_option maxRecDepth 1000000 in
set_option maxHeartbeats 20000000 in
theorem g32a {c : Int} (c1 : c ≤ 8) : ∀ (n : Nat) (i : Int32) (s : Nat → Int32) (A : Nat → List Int32), GT AB s A → (s 1).toInt = c → 0 ≤ (s 10).toInt → (s 10).toInt + n ≤ 100000 → ¬ i < 0 → i.toInt + n = c → ∃ (s' : Nat → Int32) (A' : Nat → List Int32), (GT AB s' A' ∧ (∀ k, k ≠ 10 → s' k = s k) ∧ (s 10).toInt ≤ (s' 10).toInt ∧ (s' 10).toInt ≤ (s 10).toInt + n) ∧ ∀ (b : Nat) (pre post : AHeap) (Q : Option Value → AHeap → Prop), Q none (put (b + 1) pre s' A' post) → M32 2 [.val (.ref (b + 1)), .val (.int i)] [] (put (b + 1) pre s A post) Q := by
  intro n
  induction n with
  | zero =>
    intro i s A h hc w0 w1 h0 e
    have hge : ¬ i < s 1 := by rw [lt_i]; omega
    refine ⟨s, A, ⟨h, fun _ _ => rfl, Int.le_refl _, by omega⟩, fun b pre post Q hq => ?_⟩
    rw [m32_2]
    simp [hge, m32_0, m32_1u, own_k32_0, own_k32_1, own_k32_2, nb0, nb1, ou_a, Option.toList_some, Option.toList_none, List.nil_append, List.cons_append]
    exact hq
  | succ n ih =>
    intro i s A h hc w0 w1 h0 e
    have hlt : i < s 1 := by rw [lt_i]; omega
    have i9 := lt9 hlt (by omega)
    have q1 := in_lt h.1.1 z1 h0 i9
    have q14 := in_lt h.1.1 z14 h0 i9
    have q15 := in_lt h.1.1 z15 h0 i9
    have q17 := in_lt h.1.1 z17 h0 i9
    have n1 := succ_nn h0 (by omega)
    have e1 : (i + 1).toInt + n = c := by rw [add1_i (by omega)]; omega
    by_cases b1 : getA (A 14) i = 0
    · obtain ⟨s', A', ⟨g1, g2, g3, g4⟩, hv⟩ := ih (i + 1) s A h hc w0 (by omega) n1 e1
      refine ⟨s', A', ⟨g1, g2, g3, by omega⟩, fun b pre post Q hq => ?_⟩
      rw [m32_2]
      simp [hlt, q14, b1, m32_0, m32_1u, own_k32_0, own_k32_1, own_k32_2, nb0, nb1, ou_a, Option.toList_some, Option.toList_none, List.nil_append, List.cons_append]
      exact hv b pre post Q hq
    by_cases b2 : getA (A 15) i + getA (A 1) i = s 9
    · have es : (s 10 + 1).toInt = (s 10).toInt + 1 := add1_i (by omega)
      have ez : (ou s 10 (s 10 + 1)) 10 = s 10 + 1 := by rw [ou_a, if_pos rfl]
      obtain ⟨s', A', ⟨g1, g2, g3, g4⟩, hv⟩ := ih (i + 1) (ou s 10 (s 10 + 1)) (ou (ou A 17 (setA (A 17) i (-1))) 14 (setA (A 14) i 0)) ⟨(by have h := h.1; exact (by (repeat refine LT_ou ?_ (by simp only [setA_len]; exact h.1 _) (by decide)); exact h)), h.2.1, h.2.2⟩ hc (by rw [ez, es]; omega) (by rw [ez, es]; omega) n1 e1
      rw [ez, es] at g3 g4
      refine ⟨s', A', ⟨g1, fun k hk => by rw [g2 k hk, ou_a, if_neg hk], by omega, by omega⟩, fun b pre post Q hq => ?_⟩
      rw [m32_2]
      simp [hlt, q1, q14, q15, q17, b1, b2, m32_0, m32_1u, own_k32_0, own_k32_1, own_k32_2, nb0, nb1, ou_a, Option.toList_some, Option.toList_none, List.nil_append, List.cons_append]
      exact hv b pre post Q hq
    · obtain ⟨s', A', ⟨g1, g2, g3, g4⟩, hv⟩ := ih (i + 1) s A h hc w0 (by omega) n1 e1
      refine ⟨s', A', ⟨g1, g2, g3, by omega⟩, fun b pre post Q hq => ?_⟩
      rw [m32_2]
      simp [hlt, q1, q14, q15, b1, b2, m32_0, m32_1u, own_k32_0, own_k32_1, own_k32_2, nb0, nb1, ou_a, Option.toList_some, Option.toList_none, List.nil_append, List.cons_append]
      exact hv b pre post Q hq
theorem g32 (h : GT AB s A) (w0 : 0 ≤ (s 10).toInt) (w1 : (s 10).toInt ≤ 50000) : ∃ (s' : Nat → Int32) (A' : Nat → List Int32), (GT AB s' A' ∧ (∀ k, k ≠ 10 → s' k = s k) ∧ (s 10).toInt ≤ (s' 10).toInt ∧ (s' 10).toInt ≤ (s 10).toInt + 8) ∧ ∀ (b : Nat) (pre post : AHeap) (Q : Option Value → AHeap → Prop), Q none (put (b + 1) pre s' A' post) → M32 0 [.val (.ref (b + 1)), .unset] [] (put (b + 1) pre s A post) Q := by
  have em := Int.toNat_of_nonneg h.2.1
  have c1 := h.2.2
  obtain ⟨s', A', ⟨g1, g2, g3, g4⟩, hv⟩ := g32a (AB := AB) h.2.2 (s 1).toInt.toNat 0 s A h rfl w0 (by omega) (by decide) (by rw [i_0]; omega)
  refine ⟨s', A', ⟨g1, g2, g3, by omega⟩, fun b pre post Q hq => ?_⟩
  simp [m32_0, m32_1u, own_k32_0, own_k32_1, own_k32_2, nb0, nb1, ou_a, Option.toList_some, Option.toList_none, List.nil_append, List.cons_append]
  exact hv b pre post Q hq
set_option maxRecDepth 1000000 in
set_option maxHeartbeats 20000000 in
theorem g26 (h : GT AB s A) (w0 : 0 ≤ (s 10).toInt) (w1 : (s 10).toInt ≤ 50000) : ∃ (s' : Nat → Int32) (A' : Nat → List Int32), (GT AB s' A' ∧ (∀ k, k ≠ 9 → k ≠ 10 → s' k = s k) ∧ s' 9 = s 9 + 1 ∧ (s 10).toInt ≤ (s' 10).toInt ∧ (s' 10).toInt ≤ (s 10).toInt + 8) ∧ ∀ (b : Nat) (pre post : AHeap) (Q : Option Value → AHeap → Prop), Q none (put (b + 1) pre s' A' post) → M26 0 [.val (.ref (b + 1)), .unset] [] (put (b + 1) pre s A post) Q := by
  obtain ⟨A1, h1, v1⟩ := g27 h
  obtain ⟨r, pr, v2⟩ := g28 (s := s) (A := A1) ⟨h1.1.1, h1.2⟩
  by_cases b1 : r < 0
  · have e10 : (ou s 9 (s 9 + 1)) 10 = s 10 := by rw [ou_a, if_neg (by decide)]
    obtain ⟨s4, A4, ⟨h4, i1, i2, i3⟩, v4⟩ := g32 (s := ou s 9 (s 9 + 1)) h1 (by rw [e10]; exact w0) (by rw [e10]; exact w1)
    rw [e10] at i2 i3
    refine ⟨s4, A4, ⟨h4, fun k k1 k2 => by rw [i1 k k2, ou_a, if_neg k1], by rw [i1 9 (by decide), ou_a, if_pos rfl], i2, i3⟩, fun b pre post Q hq => ?_⟩
    simp [own_k26_0, own_k26_1, nb0, nb1, ou_a, Option.toList_some, Option.toList_none, List.nil_append, List.cons_append]
    refine v1 b pre post _ ?_
    simp [own_k26_0, own_k26_1, nb0, nb1, ou_a, Option.toList_some, Option.toList_none, List.nil_append, List.cons_append]
    refine v2 b pre post _ ?_
    simp [b1, own_k26_0, own_k26_1, nb0, nb1, ou_a, Option.toList_some, Option.toList_none, List.nil_append, List.cons_append]
    refine v4 b pre post _ ?_
    simp [own_k26_0, own_k26_1, nb0, nb1, ou_a, Option.toList_some, Option.toList_none, List.nil_append, List.cons_append]
    exact hq
  · have c1 := h1.2.2
    have r9 : r < 9 := by
      rcases pr with q | ⟨_, q⟩
      · exact absurd q b1
      · exact lt9 q (by omega)
    obtain ⟨A2, h2, v3⟩ := g30 h1 r b1 r9
    have e10 : (ou s 9 (s 9 + 1)) 10 = s 10 := by rw [ou_a, if_neg (by decide)]
    obtain ⟨s4, A4, ⟨h4, i1, i2, i3⟩, v4⟩ := g32 (s := ou s 9 (s 9 + 1)) h2 (by rw [e10]; exact w0) (by rw [e10]; exact w1)
    rw [e10] at i2 i3
    refine ⟨s4, A4, ⟨h4, fun k k1 k2 => by rw [i1 k k2, ou_a, if_neg k1], by rw [i1 9 (by decide), ou_a, if_pos rfl], i2, i3⟩, fun b pre post Q hq => ?_⟩
    simp [own_k26_0, own_k26_1, nb0, nb1, ou_a, Option.toList_some, Option.toList_none, List.nil_append, List.cons_append]
    refine v1 b pre post _ ?_
    simp [own_k26_0, own_k26_1, nb0, nb1, ou_a, Option.toList_some, Option.toList_none, List.nil_append, List.cons_append]
    refine v2 b pre post _ ?_
    simp [b1, own_k26_0, own_k26_1, nb0, nb1, ou_a, Option.toList_some, Option.toList_none, List.nil_append, List.cons_append]
    refine v3 b pre post _ ?_
    simp [own_k26_0, own_k26_1, nb0, nb1, ou_a, Option.toList_some, Option.toList_none, List.nil_append, List.cons_append]
    refine v4 b pre post _ ?_
    simp [own_k26_0, own_k26_1, nb0, nb1, ou_a, Option.toList_some, Option.toList_none, List.nil_append, List.cons_append]
    exact hq
set_option maxRecDepth 1000000 in
set_option maxHeartbeats 20000000 in
theorem g25a {nn lm : Int32} : ∀ (n : Nat) (k : Int32) (s : Nat → Int32) (A : Nat → List Int32), GT AB s A → 0 ≤ (s 9).toInt → (s 9).toInt ≤ (s 2).toInt → (s 2).toInt ≤ 840 → 0 ≤ (s 10).toInt → (s 10).toInt ≤ 8 * (s 9).toInt → ¬ k < 0 → k.toInt + n = lm.toInt → ∃ (s' : Nat → Int32) (A' : Nat → List Int32) (k' : Int32), (GT AB s' A' ∧ (∀ i, i ≠ 9 → i ≠ 10 → s' i = s i) ∧ k'.toInt = k.toInt + min (n : Int) ((s 2).toInt - (s 9).toInt) ∧ (s' 9).toInt = (s 9).toInt + (k'.toInt - k.toInt) ∧ (s 10).toInt ≤ (s' 10).toInt ∧ (s' 10).toInt ≤ 8 * (s' 9).toInt) ∧ ∀ (b : Nat) (pre post : AHeap) (Q : Option Value → AHeap → Prop), Q (some (.int k')) (put (b + 1) pre s' A' post) → M25 23 [.val (.ref (b + 1)), .val (.int nn), .val (.int lm), .val (.int k)] [] (put (b + 1) pre s A post) Q := by
  intro n
  induction n with
  | zero =>
    intro k s A h t0 t1 t2 w0 w1 h0 e
    have hge : ¬ k < lm := by rw [lt_i]; omega
    refine ⟨s, A, k, ⟨h, fun _ _ _ => rfl, by omega, by omega, Int.le_refl _, w1⟩, fun b pre post Q hq => ?_⟩
    rw [m25_23]
    simp [hge, own_k25_0, own_k25_1, nb0, nb1, ou_a, Option.toList_some, Option.toList_none, List.nil_append, List.cons_append]
    exact hq
  | succ n ih =>
    intro k s A h t0 t1 t2 w0 w1 h0 e
    have hk := Int32.toInt_lt lm
    have hlt : k < lm := by rw [lt_i]; omega
    by_cases c : s 9 < s 2
    · have c' := c
      rw [lt_i] at c'
      obtain ⟨s1, A1, ⟨g1, g2, g3, g4, g5⟩, hv1⟩ := g26 h w0 (by omega)
      have e9 : (s1 9).toInt = (s 9).toInt + 1 := by rw [g3]; exact add1_i (by omega)
      have e2 : s1 2 = s 2 := g2 2 (by decide) (by decide)
      have ek := add1_i (a := k) (by omega)
      obtain ⟨s', A', k', ⟨i1, i2, i3, i4, i5, i6⟩, hv⟩ := ih (k + 1) s1 A1 g1 (by omega) (by rw [e2]; omega) (by rw [e2]; omega) (by omega) (by omega) (succ_nn h0 (by omega)) (by rw [ek]; omega)
      rw [e2] at i3
      refine ⟨s', A', k', ⟨i1, fun i i1 i3 => by rw [i2 i i1 i3, g2 i i1 i3], by omega, by omega, by omega, i6⟩, fun b pre post Q hq => ?_⟩
      rw [m25_23]
      simp [hlt, c, own_k25_0, own_k25_1, nb0, nb1, ou_a, Option.toList_some, Option.toList_none, List.nil_append, List.cons_append]
      refine hv1 b pre post _ ?_
      simp [own_k25_0, own_k25_1, nb0, nb1, ou_a, Option.toList_some, Option.toList_none, List.nil_append, List.cons_append]
      exact hv b pre post Q hq
    · have c' := c
      rw [lt_i] at c'
      refine ⟨s, A, k, ⟨h, fun _ _ _ => rfl, by omega, by omega, Int.le_refl _, w1⟩, fun b pre post Q hq => ?_⟩
      rw [m25_23]
      simp [hlt, c, own_k25_0, own_k25_1, nb0, nb1, ou_a, Option.toList_some, Option.toList_none, List.nil_append, List.cons_append]
      exact hq
set_option maxRecDepth 1000000 in
set_option maxHeartbeats 20000000 in
theorem g25 {n m : Int32} (h : GT AB s A) (hm : (n < 0 ∧ m = 0) ∨ (¬ n < 0 ∧ m = n)) (h2 : m.toInt ≤ 200) (t0 : 0 ≤ (s 9).toInt) (t1 : (s 9).toInt ≤ (s 2).toInt) (t2 : (s 2).toInt ≤ 840) (w0 : 0 ≤ (s 10).toInt) (w1 : (s 10).toInt ≤ 8 * (s 9).toInt) : ∃ (s' : Nat → Int32) (A' : Nat → List Int32) (k' : Int32), (GT AB s' A' ∧ (∀ i, i ≠ 9 → i ≠ 10 → s' i = s i) ∧ k'.toInt = min m.toInt ((s 2).toInt - (s 9).toInt) ∧ (s' 9).toInt = (s 9).toInt + k'.toInt ∧ (s 10).toInt ≤ (s' 10).toInt ∧ (s' 10).toInt ≤ 8 * (s' 9).toInt) ∧ ∀ (b : Nat) (pre post : AHeap) (Q : Option Value → AHeap → Prop), Q (some (.int k')) (put (b + 1) pre s' A' post) → M25 0 [.val (.ref (b + 1)), .val (.int n), .unset, .unset] [] (put (b + 1) pre s A post) Q := by
  rcases hm with ⟨n0, rfl⟩ | ⟨n0, rfl⟩
  · obtain ⟨s', A', k', ⟨g1, g2, g3, g4, g5, g6⟩, hv⟩ := g25a (nn := n) (lm := 0) 0 0 s A h t0 t1 t2 w0 w1 (by decide) rfl
    rw [i_0] at g3 g4
    refine ⟨s', A', k', ⟨g1, g2, by rw [i_0]; omega, by omega, g5, g6⟩, fun b pre post Q hq => ?_⟩
    simp [n0, own_k25_0, own_k25_1, nb0, nb1, ou_a, Option.toList_some, Option.toList_none, List.nil_append, List.cons_append]
    exact hv b pre post Q hq
  · have c : ¬ 840 < m := by rw [lt_i, i_840]; omega
    have m0 := nn_i.mp n0
    obtain ⟨s', A', k', ⟨g1, g2, g3, g4, g5, g6⟩, hv⟩ := g25a (nn := m) (lm := m) m.toInt.toNat 0 s A h t0 t1 t2 w0 w1 (by decide) (by rw [i_0]; omega)
    rw [i_0] at g3 g4
    refine ⟨s', A', k', ⟨g1, g2, by omega, by omega, g5, g6⟩, fun b pre post Q hq => ?_⟩
    simp [n0, c, own_k25_0, own_k25_1, nb0, nb1, ou_a, Option.toList_some, Option.toList_none, List.nil_append, List.cons_append]
    exact hv b pre post Q hq
end Gate
theorem cmp0 (x : Int64) : (XT.cmpL x 0 = 0) = (x = 0) := by
  apply propext
  unfold XT.cmpL
  by_cases a : (0 : Int64) < x
  · rw [if_pos a]
    constructor
    · intro h; exact absurd h (by decide)
    · intro h; subst h; exact absurd a (by decide)
  · rw [if_neg a]
    by_cases c : x = 0
    · rw [if_pos c]; exact ⟨fun _ => c, fun _ => rfl⟩
    · rw [if_neg c]; exact ⟨fun h => absurd h (by decide), fun h => absurd h c⟩
theorem bv_eq {x y : Int64} (h : x.toBitVec = y.toBitVec) : x = y := Int64.toBitVec_inj.mp h
def SB (y : Int32) : Nat := ((y.toInt64.toUInt64 &&& Int64.toUInt64 63) % 64).toBitVec.toNat
theorem ur_bv (x : Int64) (y : Int32) : (XT.ushrL x y).toBitVec = x.toBitVec >>> SB y := rfl
theorem ur_or (a c : Int64) (y : Int32) : XT.ushrL (a ||| c) y = XT.ushrL a y ||| XT.ushrL c y := bv_eq (by rw [Int64.toBitVec_or, ur_bv, ur_bv, ur_bv, Int64.toBitVec_or, BitVec.ushiftRight_or_distrib])
theorem ur_and (a c : Int64) (y : Int32) : XT.ushrL (a &&& c) y = XT.ushrL a y &&& XT.ushrL c y := bv_eq (by rw [Int64.toBitVec_and, ur_bv, ur_bv, ur_bv, Int64.toBitVec_and, BitVec.ushiftRight_and_distrib])
theorem or_and (x y m : Int64) : (x ||| y) &&& m = (x &&& m) ||| (y &&& m) := bv_eq (by
  rw [Int64.toBitVec_and, Int64.toBitVec_or, Int64.toBitVec_or, Int64.toBitVec_and, Int64.toBitVec_and]
  apply BitVec.eq_of_getLsbD_eq
  intro i hi
  simp only [BitVec.getLsbD_and, BitVec.getLsbD_or]
  cases x.toBitVec.getLsbD i <;> cases y.toBitVec.getLsbD i <;> cases m.toBitVec.getLsbD i <;> rfl)
theorem or_z1 {x y : Int64} (h : x ||| y = 0) : x = 0 := bv_eq (by
  have hb : x.toBitVec ||| y.toBitVec = (0 : Int64).toBitVec := by rw [← Int64.toBitVec_or, h]
  apply BitVec.eq_of_getLsbD_eq
  intro i hi
  have g := congrArg (fun v => BitVec.getLsbD v i) hb
  simp only [BitVec.getLsbD_or] at g
  have z : (0 : Int64).toBitVec.getLsbD i = false := by
    show (0#64).getLsbD i = false
    exact BitVec.getLsbD_zero
  rw [z] at g ⊢
  revert g
  cases x.toBitVec.getLsbD i <;> cases y.toBitVec.getLsbD i <;> simp)
theorem or_cm (x y : Int64) : x ||| y = y ||| x := bv_eq (by
  rw [Int64.toBitVec_or, Int64.toBitVec_or]
  apply BitVec.eq_of_getLsbD_eq
  intro i hi
  simp only [BitVec.getLsbD_or]
  cases x.toBitVec.getLsbD i <;> cases y.toBitVec.getLsbD i <;> rfl)
theorem or_z (x y : Int64) : (x ||| y = 0) ↔ (x = 0 ∧ y = 0) := by
  constructor
  · intro h
    exact ⟨or_z1 h, or_z1 (by rw [or_cm]; exact h)⟩
  · rintro ⟨rfl, rfl⟩
    decide
theorem one_sh : ∀ p q : Fin 64, (XT.ushrL ((1 : Int64) <<< ((Int32.ofNat q.val).toInt64 &&& 63)) (Int32.ofNat p.val) &&& 1 = 0) ↔ ¬ Int32.ofNat p.val = Int32.ofNat q.val := by decide +kernel
theorem bit_or {z : Int64} {p q : Int32} (p0 : 0 ≤ p.toInt) (p1 : p.toInt < 64) (q0 : 0 ≤ q.toInt) (q1 : q.toInt < 64) : (XT.ushrL (z ||| ((1 : Int64) <<< (q.toInt64 &&& 63))) p &&& 1 = 0) ↔ (XT.ushrL z p &&& 1 = 0 ∧ ¬ p = q) := by
  obtain ⟨k, hk, e⟩ := rng (x := p) (n := 64) p0 p1
  obtain ⟨m, hm, e'⟩ := rng (x := q) (n := 64) q0 q1
  rw [ur_or, or_and, or_z, e, e', one_sh ⟨k, hk⟩ ⟨m, hm⟩]
def MK (st ln : Int32) : Int64 := ((1 : Int64) <<< (ln.toInt64 &&& 63) - 1) <<< (st.toInt64 &&& 63)
theorem mk_d : ∀ (a c : Fin 8) (b d : Fin 4), 1 ≤ b.val → 1 ≤ d.val → ((MK (Int32.ofNat a.val) (Int32.ofNat b.val) &&& MK (Int32.ofNat c.val) (Int32.ofNat d.val) = 0) ↔ ¬ (Int32.ofNat c.val < Int32.ofNat a.val + Int32.ofNat b.val ∧ Int32.ofNat a.val < Int32.ofNat c.val + Int32.ofNat d.val)) := by decide +kernel
theorem of_pos {k : Nat} (h : 1 ≤ (Int32.ofNat k).toInt) : 1 ≤ k := by
  cases k with
  | zero => exact absurd h (by decide)
  | succ k => omega
theorem mk_and {st ln st' ln' : Int32} (a1 : 0 ≤ st.toInt) (a2 : st.toInt ≤ 7) (a3 : 1 ≤ ln.toInt) (a4 : ln.toInt ≤ 3) (b1 : 0 ≤ st'.toInt) (b2 : st'.toInt ≤ 7) (b3 : 1 ≤ ln'.toInt) (b4 : ln'.toInt ≤ 3) : (MK st ln &&& MK st' ln' = 0) ↔ ¬ (st' < st + ln ∧ st < st' + ln') := by
  obtain ⟨k1, h1, e1⟩ := rng (x := st) (n := 8) a1 (by omega)
  obtain ⟨k2, h2, e2⟩ := rng (x := ln) (n := 4) (by omega) (by omega)
  obtain ⟨k3, h3, e3⟩ := rng (x := st') (n := 8) b1 (by omega)
  obtain ⟨k4, h4, e4⟩ := rng (x := ln') (n := 4) (by omega) (by omega)
  rw [e2] at a3
  rw [e4] at b3
  rw [e1, e2, e3, e4]
  exact mk_d ⟨k1, h1⟩ ⟨k3, h3⟩ ⟨k2, h2⟩ ⟨k4, h4⟩ (of_pos a3) (of_pos b3)
def GCe (zc : Int64) (q : Int32) : Int32 := (XT.ushrL zc (8 * q) &&& 255).toInt32
def STC (zc : Int64) (q v : Int32) : Int64 := (zc &&& (~~~ ((255 : Int64) <<< ((8 * q).toInt64 &&& 63)))) ||| (v.toInt64 <<< ((8 * q).toInt64 &&& 63))
theorem sc_a : ∀ q p : Fin 4, XT.ushrL (~~~ ((255 : Int64) <<< ((8 * Int32.ofNat q.val).toInt64 &&& 63))) (8 * Int32.ofNat p.val) &&& 255 = if Int32.ofNat q.val = Int32.ofNat p.val then 0 else 255 := by decide +kernel
theorem sc_b : ∀ (q p : Fin 4) (v : Fin 64), XT.ushrL ((Int32.ofNat v.val).toInt64 <<< ((8 * Int32.ofNat q.val).toInt64 &&& 63)) (8 * Int32.ofNat p.val) &&& 255 = if Int32.ofNat q.val = Int32.ofNat p.val then (Int32.ofNat v.val).toInt64 else 0 := by decide +kernel
theorem sc_c : ∀ v : Fin 64, ((0 : Int64) ||| (Int32.ofNat v.val).toInt64).toInt32 = Int32.ofNat v.val := by decide +kernel
theorem or_0 (x : Int64) : x ||| 0 = x := bv_eq (by
  rw [Int64.toBitVec_or]
  apply BitVec.eq_of_getLsbD_eq
  intro i hi
  have z : (0 : Int64).toBitVec.getLsbD i = false := by
    show (0#64).getLsbD i = false
    exact BitVec.getLsbD_zero
  simp only [BitVec.getLsbD_or, z, Bool.or_false])
theorem and_0 (x : Int64) : x &&& 0 = 0 := bv_eq (by
  rw [Int64.toBitVec_and]
  apply BitVec.eq_of_getLsbD_eq
  intro i hi
  have z : (0 : Int64).toBitVec.getLsbD i = false := by
    show (0#64).getLsbD i = false
    exact BitVec.getLsbD_zero
  simp only [BitVec.getLsbD_and, z, Bool.and_false])
theorem and_as (a k m : Int64) : (a &&& k) &&& m = a &&& (k &&& m) := bv_eq (by
  rw [Int64.toBitVec_and, Int64.toBitVec_and, Int64.toBitVec_and, Int64.toBitVec_and]
  apply BitVec.eq_of_getLsbD_eq
  intro i hi
  simp only [BitVec.getLsbD_and, Bool.and_assoc])
theorem STC_get {zc : Int64} {q p v : Int32} (q0 : 0 ≤ q.toInt) (q1 : q.toInt < 4) (p0 : 0 ≤ p.toInt) (p1 : p.toInt < 4) (v0 : 0 ≤ v.toInt) (v1 : v.toInt < 64) : GCe (STC zc q v) p = if q = p then v else GCe zc p := by
  obtain ⟨k, hk, e⟩ := rng (x := q) (n := 4) q0 q1
  obtain ⟨m, hm, e'⟩ := rng (x := p) (n := 4) p0 p1
  obtain ⟨w, hw, e2⟩ := rng (x := v) (n := 64) v0 v1
  unfold GCe STC
  rw [ur_or, ur_and, or_and, and_as, e, e', e2, sc_a ⟨k, hk⟩ ⟨m, hm⟩, sc_b ⟨k, hk⟩ ⟨m, hm⟩ ⟨w, hw⟩]
  by_cases z : Int32.ofNat k = Int32.ofNat m
  · rw [if_pos z, if_pos z, if_pos z, and_0]
    exact sc_c ⟨w, hw⟩
  · rw [if_neg z, if_neg z, if_neg z, or_0]
def UPD (zr : Int64) (sp : Int32) (zc : Int64) (q : Int32) : Int64 := if ¬ XT.ushrL zr q &&& 1 = 0 ∧ GCe zc q < sp then STC zc q sp else zc
theorem UPD_ne {zr zc : Int64} {sp q p : Int32} (q0 : 0 ≤ q.toInt) (q1 : q.toInt < 4) (p0 : 0 ≤ p.toInt) (p1 : p.toInt < 4) (v0 : 0 ≤ sp.toInt) (v1 : sp.toInt < 64) (ne : ¬ q = p) : GCe (UPD zr sp zc q) p = GCe zc p := by
  unfold UPD
  split
  · rw [STC_get q0 q1 p0 p1 v0 v1, if_neg ne]
  · rfl
theorem UPD_eq {zr zc : Int64} {sp q : Int32} (q0 : 0 ≤ q.toInt) (q1 : q.toInt < 4) (v0 : 0 ≤ sp.toInt) (v1 : sp.toInt < 64) : GCe (UPD zr sp zc q) q = if ¬ XT.ushrL zr q &&& 1 = 0 ∧ GCe zc q < sp then sp else GCe zc q := by
  unfold UPD
  by_cases z : ¬ XT.ushrL zr q &&& 1 = 0 ∧ GCe zc q < sp
  · rw [if_pos z, if_pos z, STC_get q0 q1 q0 q1 v0 v1, if_pos rfl]
  · rw [if_neg z, if_neg z]
theorem UPD4 {zr zc : Int64} {sp p : Int32} (v0 : 0 ≤ sp.toInt) (v1 : sp.toInt < 64) (p0 : 0 ≤ p.toInt) (p1 : p.toInt < 4) : GCe (UPD zr sp (UPD zr sp (UPD zr sp (UPD zr sp zc 0) (0 + 1)) (0 + 1 + 1)) (0 + 1 + 1 + 1)) p = if ¬ XT.ushrL zr p &&& 1 = 0 ∧ GCe zc p < sp then sp else GCe zc p := by
  rcases r4 p0 p1 with rfl | rfl | rfl | rfl
  · rw [UPD_ne (by decide) (by decide) (by decide) (by decide) v0 v1 (by decide), UPD_ne (by decide) (by decide) (by decide) (by decide) v0 v1 (by decide), UPD_ne (by decide) (by decide) (by decide) (by decide) v0 v1 (by decide), UPD_eq (by decide) (by decide) v0 v1]
  · rw [UPD_ne (by decide) (by decide) (by decide) (by decide) v0 v1 (by decide), UPD_ne (by decide) (by decide) (by decide) (by decide) v0 v1 (by decide), show (0 + 1 : Int32) = 1 from rfl, UPD_eq (by decide) (by decide) v0 v1, UPD_ne (by decide) (by decide) (by decide) (by decide) v0 v1 (by decide)]
  · rw [UPD_ne (by decide) (by decide) (by decide) (by decide) v0 v1 (by decide), show (0 + 1 + 1 : Int32) = 2 from rfl, UPD_eq (by decide) (by decide) v0 v1, UPD_ne (by decide) (by decide) (by decide) (by decide) v0 v1 (by decide), UPD_ne (by decide) (by decide) (by decide) (by decide) v0 v1 (by decide)]
  · rw [show (0 + 1 + 1 + 1 : Int32) = 3 from rfl, UPD_eq (by decide) (by decide) v0 v1, UPD_ne (by decide) (by decide) (by decide) (by decide) v0 v1 (by decide), UPD_ne (by decide) (by decide) (by decide) (by decide) v0 v1 (by decide), UPD_ne (by decide) (by decide) (by decide) (by decide) v0 v1 (by decide)]
def IR (zr : Int64) (A : Nat → List Int32) : Prop := ∀ r : Int32, 0 ≤ r.toInt → r.toInt < 4 → ((XT.ushrL zr r &&& 1 = 0) ↔ ¬ 0 < getA (A 10) r)
def IU (zu : Int64) (A : Nat → List Int32) : Prop := ∀ st ln : Int32, 0 ≤ st.toInt → st.toInt ≤ 7 → 1 ≤ ln.toInt → ln.toInt ≤ 3 → ((zu &&& MK st ln = 0) ↔ ∀ r : Int32, 0 ≤ r.toInt → r.toInt < 4 → ¬ OV A st ln r)
def PR (zp : Int64) (cnt : Int32) (A : Nat → List Int32) : Prop := ∀ p : Int32, 1 ≤ p.toInt → p.toInt ≤ 63 → ((XT.ushrL zp p &&& 1 = 0) ↔ ∀ i : Int32, 0 ≤ i.toInt → i.toInt < cnt.toInt → ¬ getA (A 3) i = p)
def IC (zc : Int64) (cnt : Int32) (A : Nat → List Int32) : Prop := ∀ q : Int32, 0 ≤ q.toInt → q.toInt < 4 → GCe zc q = getA (A 8) q ∧ getA (A 8) q = CEL A q cnt.toInt.toNat 0 0
def SG (s : Nat → Int32) (A : Nat → List Int32) (cnt capc stC stP stT : Int32) (zr zu : Int64) : Prop := s 5 = stT ∧ s 7 = stC ∧ s 8 = stP ∧ cnt.toInt < capc.toInt ∧ 1 ≤ stT.toInt ∧ stT.toInt ≤ 840 ∧ 1 ≤ stC.toInt ∧ stC.toInt ≤ 8 ∧ 1 ≤ stP.toInt ∧ stP.toInt ≤ 63 ∧ IR zr A ∧ IU zu A
def IV (capc cnt h t ft stC stP stT lm sg : Int32) (zp zr zu zc : Int64) (s : Nat → Int32) (A : Nat → List Int32) : Prop :=
  LN A ∧ (s 0 = capc ∧ s 1 = cnt ∧ s 2 = h ∧ s 3 = ft ∧ s 4 = sg ∧ s 9 = t ∧ s 10 = lm) ∧ (1 ≤ capc.toInt ∧ capc.toInt ≤ 8 ∧ 0 ≤ cnt.toInt ∧ cnt.toInt ≤ capc.toInt ∧ 1 ≤ h.toInt ∧ h.toInt ≤ 840 ∧ 0 ≤ t.toInt ∧ t.toInt ≤ h.toInt ∧ 0 ≤ lm.toInt ∧ lm.toInt ≤ 8 * t.toInt) ∧ (sg = 0 ∨ (sg = 1 ∧ SG s A cnt capc stC stP stT zr zu)) ∧ PR zp cnt A ∧ IC zc cnt A
section Inv
variable {A A' : Nat → List Int32}
theorem PR_ext {zp : Int64} {cnt : Int32} (h : A' 3 = A 3) (k : PR zp cnt A) : PR zp cnt A' := by
  unfold PR at *
  rw [h]
  exact k
theorem IC_ext {zc : Int64} {cnt : Int32} (h3 : A' 3 = A 3) (h5 : A' 5 = A 5) (h8 : A' 8 = A 8) (k : IC zc cnt A) : IC zc cnt A' := by
  intro q q0 q1
  rw [h8, CEL_ext h3 h5]
  exact k q q0 q1
theorem IR_ext {zr : Int64} (h : A' 10 = A 10) (k : IR zr A) : IR zr A' := by
  unfold IR at *
  rw [h]
  exact k
theorem OV_ext {st ln r : Int32} (h9 : A' 9 = A 9) (h10 : A' 10 = A 10) : OV A' st ln r = OV A st ln r := by
  unfold OV
  rw [h9, h10]
theorem IU_ext {zu : Int64} (h9 : A' 9 = A 9) (h10 : A' 10 = A 10) (k : IU zu A) : IU zu A' := by
  intro st ln a1 a2 a3 a4
  have e : ∀ r, OV A' st ln r = OV A st ln r := fun r => OV_ext h9 h10
  simp only [e]
  exact k st ln a1 a2 a3 a4
theorem IR_0 (h : getA (A 10) 0 = 0 ∧ getA (A 10) 1 = 0 ∧ getA (A 10) 2 = 0 ∧ getA (A 10) 3 = 0) : IR 0 A := by
  intro r r0 r1
  rcases r4 r0 r1 with rfl | rfl | rfl | rfl
  · rw [h.1]; decide
  · rw [h.2.1]; decide
  · rw [h.2.2.1]; decide
  · rw [h.2.2.2]; decide
theorem z_and (x : Int64) : 0 &&& x = 0 := bv_eq (by
  rw [Int64.toBitVec_and]
  apply BitVec.eq_of_getLsbD_eq
  intro i hi
  have z : (0 : Int64).toBitVec.getLsbD i = false := by
    show (0#64).getLsbD i = false
    exact BitVec.getLsbD_zero
  simp only [BitVec.getLsbD_and, z, Bool.false_and])
theorem IU_0 (h : getA (A 10) 0 = 0 ∧ getA (A 10) 1 = 0 ∧ getA (A 10) 2 = 0 ∧ getA (A 10) 3 = 0) : IU 0 A := by
  intro st ln a1 a2 a3 a4
  refine ⟨fun _ r r0 r1 q => ?_, fun _ => z_and _⟩
  have q1 := q.1
  rcases r4 r0 r1 with rfl | rfl | rfl | rfl
  · rw [h.1] at q1; exact absurd q1 (by decide)
  · rw [h.2.1] at q1; exact absurd q1 (by decide)
  · rw [h.2.2.1] at q1; exact absurd q1 (by decide)
  · rw [h.2.2.2] at q1; exact absurd q1 (by decide)
theorem gset {l : List Int32} {r v : Int32} (hr : inB r l) (r0 : 0 ≤ r.toInt) (j : Int32) (j0 : 0 ≤ j.toInt) : getA (setA l r v) j = if j.toInt = r.toInt then v else getA l j := by
  rw [getA_set hr, toNat_eq, toNat_eq]
  by_cases z : j.toInt = r.toInt
  · rw [if_pos (by rw [z]), if_pos z]
  · rw [if_neg (by omega), if_neg z]
theorem IR_add {zr : Int64} {r ln : Int32} {l9 : List Int32} (h : LN A) (k : IR zr A) (r0 : ¬ r < 0) (r1 : r < 4) (l1 : 1 ≤ ln.toInt) : IR (zr ||| ((1 : Int64) <<< (r.toInt64 &&& 63))) (ou (ou A 9 l9) 10 (setA (A 10) r ln)) := by
  intro q q0 q1
  have r0' := nn_i.mp r0
  have r1' := r1
  rw [lt_i, i_4] at r1'
  show _ ↔ ¬ 0 < getA (setA (A 10) r ln) q
  rw [bit_or q0 (by omega) r0' (by omega), gset (in_lt h z10 r0 r1) r0' q q0]
  by_cases z : q.toInt = r.toInt
  · have e := Int32.toInt_inj.mp z
    rw [if_pos z]
    refine ⟨fun w => absurd e w.2, fun w => absurd (by rw [lt_i, i_0]; omega) w⟩
  · have e : ¬ q = r := fun w => z (by rw [w])
    rw [if_neg z, k q q0 q1]
    exact ⟨fun w => w.1, fun w => ⟨w, e⟩⟩
theorem IU_add {zu : Int64} {r st ln : Int32} (h : LN A) (k : IU zu A) (r0 : ¬ r < 0) (r1 : r < 4) (f7 : ¬ 0 < getA (A 10) r) (b1 : 0 ≤ st.toInt) (b2 : st.toInt ≤ 7) (b3 : 1 ≤ ln.toInt) (b4 : ln.toInt ≤ 3) : IU (zu ||| MK st ln) (ou (ou A 9 (setA (A 9) r st)) 10 (setA (A 10) r ln)) := by
  intro st' ln' a1 a2 a3 a4
  have r0' := nn_i.mp r0
  have r1' := r1
  rw [lt_i, i_4] at r1'
  rw [or_and, or_z, k st' ln' a1 a2 a3 a4, mk_and b1 b2 b3 b4 a1 a2 a3 a4]
  have g9 := fun j j0 => gset (v := st) (in_lt h z9 r0 r1) r0' j j0
  have g10 := fun j j0 => gset (v := ln) (in_lt h z10 r0 r1) r0' j j0
  have ov : ∀ j : Int32, 0 ≤ j.toInt → (OV (ou (ou A 9 (setA (A 9) r st)) 10 (setA (A 10) r ln)) st' ln' j ↔ (if j.toInt = r.toInt then (0 < ln ∧ st' < st + ln ∧ st < st' + ln') else OV A st' ln' j)) := by
    intro j j0
    show (0 < getA (setA (A 10) r ln) j ∧ st' < getA (setA (A 9) r st) j + getA (setA (A 10) r ln) j ∧ getA (setA (A 9) r st) j < st' + ln') ↔ _
    rw [g9 j j0, g10 j j0]
    by_cases z : j.toInt = r.toInt
    · rw [if_pos z, if_pos z, if_pos z]
    · rw [if_neg z, if_neg z, if_neg z]
      exact Iff.rfl
  constructor
  · rintro ⟨h1, h2⟩ j j0 j1 w
    rw [ov j j0] at w
    by_cases z : j.toInt = r.toInt
    · rw [if_pos z] at w
      exact h2 w.2
    · rw [if_neg z] at w
      exact h1 j j0 j1 w
  · intro H
    constructor
    · intro j j0 j1 w
      by_cases z : j.toInt = r.toInt
      · have w1 := w.1
        rw [Int32.toInt_inj.mp z] at w1
        exact f7 w1
      · have := H j j0 j1
        rw [ov j j0, if_neg z] at this
        exact this w
    · intro w
      have := H r r0' r1'
      rw [ov r r0', if_pos rfl] at this
      exact this ⟨by rw [lt_i, i_0]; omega, w⟩
theorem PR_kp {zp : Int64} {cnt : Int32} (kp : KP cnt A A') (k : PR zp cnt A) : PR zp cnt A' := by
  intro p p0 p1
  rw [k p p0 p1]
  exact ⟨fun h i i0 i1 => by rw [(kp i 0 i0 i1 (by decide) (by decide)).1]; exact h i i0 i1, fun h i i0 i1 => by rw [← (kp i 0 i0 i1 (by decide) (by decide)).1]; exact h i i0 i1⟩
theorem CEL_kp {cnt q : Int32} (c0 : 0 ≤ cnt.toInt) (c1 : cnt.toInt ≤ 8) (q0 : 0 ≤ q.toInt) (q1 : q.toInt < 4) (kp : KP cnt A A') : CEL A' q cnt.toInt.toNat 0 0 = CEL A q cnt.toInt.toNat 0 0 :=
  CEL_congr _ _ _ (by decide) (by rw [i_0]; omega) (fun i i0 i1 => kp i q (by rw [i_0] at i0; exact i0) (by rw [i_0] at i1; omega) q0 q1)
theorem IC_kp {zc : Int64} {cnt : Int32} (c0 : 0 ≤ cnt.toInt) (c1 : cnt.toInt ≤ 8) (kp : KP cnt A A') (h8 : A' 8 = A 8) (k : IC zc cnt A) : IC zc cnt A' := by
  intro q q0 q1
  rw [h8, CEL_kp c0 c1 q0 q1 kp]
  exact k q q0 q1
theorem PR_add {zp : Int64} {cnt sp : Int32} (c0 : 0 ≤ cnt.toInt) (c1 : cnt.toInt ≤ 8) (p0 : 1 ≤ sp.toInt) (p1 : sp.toInt ≤ 63) (kp : KP cnt A A') (nw : getA (A' 3) cnt = sp) (k : PR zp cnt A) : PR (zp ||| ((1 : Int64) <<< (sp.toInt64 &&& 63))) (cnt + 1) A' := by
  intro p a0 a1
  have ec := add1_i (a := cnt) (by omega)
  rw [bit_or (by omega) (by omega) (by omega) (by omega), PR_kp kp k p a0 a1]
  constructor
  · rintro ⟨h1, h2⟩ i i0 i1
    by_cases z : i.toInt = cnt.toInt
    · rw [Int32.toInt_inj.mp z, nw]
      exact fun w => h2 w.symm
    · exact h1 i i0 (by omega)
  · intro H
    refine ⟨fun i i0 i1 => H i i0 (by omega), fun w => ?_⟩
    have := H cnt c0 (by omega)
    rw [nw] at this
    exact this w.symm
theorem IC_add {zr zc : Int64} {cnt sp : Int32} (c0 : 0 ≤ cnt.toInt) (c1 : cnt.toInt ≤ 8) (p0 : 1 ≤ sp.toInt) (p1 : sp.toInt ≤ 63) (kp : KP cnt A A') (nw : NW cnt sp A A') (ir : IR zr A) (k : IC zc cnt A) : IC (UPD zr sp (UPD zr sp (UPD zr sp (UPD zr sp zc 0) (0 + 1)) (0 + 1 + 1)) (0 + 1 + 1 + 1)) (cnt + 1) A' := by
  intro q q0 q1
  have ec := add1_i (a := cnt) (by omega)
  have en : (cnt + 1).toInt.toNat = cnt.toInt.toNat + 1 := by rw [ec]; omega
  have w := nw.2 q q0 q1
  have kq := k q q0 q1
  rw [en, ← w.2]
  refine ⟨?_, rfl⟩
  rw [UPD4 (by omega) (by omega) q0 q1, w.2, CEL_snoc, Int32.zero_add, ofNat_t c0, CEL_kp c0 c1 q0 q1 kp, ← kq.2, ← kq.1]
  unfold stp
  rw [w.1, nw.1]
  have iq := ir q q0 q1
  by_cases z : 0 < getA (A 10) q
  · by_cases y : GCe zc q < sp
    · rw [if_pos ⟨fun f => (iq.mp f) z, y⟩, if_pos ⟨z, y⟩]
    · rw [if_neg (fun f => y f.2), if_neg (fun f => y f.2)]
  · rw [if_neg (fun f => f.1 (iq.mpr z)), if_neg (fun f => z f.1)]
end Inv
def SH (a c : Slot) : Prop := (a = .unset ∧ c = .unset) ∨ (∃ x y : Int32, a = .val (.int x) ∧ c = .val (.int y)) ∨ (∃ z : Int64, a = .val (.long z) ∧ c = .second)
theorem SH_i (x y : Int32) : SH (.val (.int x)) (.val (.int y)) := Or.inr (Or.inl ⟨x, y, rfl, rfl⟩)
theorem SH_l (z : Int64) : SH (.val (.long z)) .second := Or.inr (Or.inr ⟨z, rfl, rfl⟩)
set_option maxRecDepth 1000000 in
set_option maxHeartbeats 20000000 in
theorem n197 {l0 l1 l2 l3 l4 l5 l6 l7 l8 l9 l10 l11 l12 l13 l14 l15 l16 l17 l18 l19 l20 l21 l22 l23 l24 l25 l26 l27 l28 l29 l30 l31 l32 : Slot} {v : Int32} {st : List Value} {H : AHeap} {Q : Option Value → AHeap → Prop} (sh : SH l31 l32) (hQ : ∀ k, okS k → M37 199 [l0, l1, l2, l3, l4, l5, l6, l7, l8, l9, l10, l11, l12, l13, l14, l15, l16, l17, l18, l19, l20, l21, l22, l23, l24, l25, l26, l27, l28, l29, l30, .val (.int v), k] st H Q) : M37 197 [l0, l1, l2, l3, l4, l5, l6, l7, l8, l9, l10, l11, l12, l13, l14, l15, l16, l17, l18, l19, l20, l21, l22, l23, l24, l25, l26, l27, l28, l29, l30, l31, l32] (.int v :: st) H Q := by
  rcases sh with ⟨rfl, rfl⟩ | ⟨x, y, rfl, rfl⟩ | ⟨z, rfl, rfl⟩
  · rw [m37_197u]; exact hQ _ okS_u
  · rw [m37_197i]; exact hQ _ (okS_i _)
  · have e : M37 197 [l0, l1, l2, l3, l4, l5, l6, l7, l8, l9, l10, l11, l12, l13, l14, l15, l16, l17, l18, l19, l20, l21, l22, l23, l24, l25, l26, l27, l28, l29, l30, .val (.long z), .second] (.int v :: st) H Q = M37 199 [l0, l1, l2, l3, l4, l5, l6, l7, l8, l9, l10, l11, l12, l13, l14, l15, l16, l17, l18, l19, l20, l21, l22, l23, l24, l25, l26, l27, l28, l29, l30, .val (.int v), .unset] st H Q := w_x at_197 rfl
    rw [e]; exact hQ _ okS_u
theorem n369 {l0 l1 l2 l3 l4 l5 l6 l7 l8 l9 l10 l11 l12 l13 l14 l15 l16 l17 l18 l19 l20 l21 l22 l23 l24 l25 l26 l27 l28 l29 l30 l31 l32 : Slot} {v : Int64} {st : List Value} {H : AHeap} {Q : Option Value → AHeap → Prop} (sh : SH l31 l32) : M37 369 [l0, l1, l2, l3, l4, l5, l6, l7, l8, l9, l10, l11, l12, l13, l14, l15, l16, l17, l18, l19, l20, l21, l22, l23, l24, l25, l26, l27, l28, l29, l30, l31, l32] (.long v :: st) H Q = M37 371 [l0, l1, l2, l3, l4, l5, l6, l7, l8, l9, l10, l11, l12, l13, l14, l15, l16, l17, l18, l19, l20, l21, l22, l23, l24, l25, l26, l27, l28, l29, l30, .val (.long v), .second] st H Q := by
  rcases sh with ⟨rfl, rfl⟩ | ⟨x, y, rfl, rfl⟩ | ⟨z, rfl, rfl⟩
  · exact w_x at_369 rfl
  · exact w_x at_369 rfl
  · exact w_x at_369 rfl
def LP (vs : List Int32) (Q : Option Value → AHeap → Prop) (n : Nat) : Prop := ∀ (cr capc cnt h t ft stC stP stT lm sg : Int32) (zp zr zu zc : Int64) (ix : Int32) (k22 k23 k24 k25 k26 k27 k28 k29 k30 k31 k32 : Slot) (s : Nat → Int32) (A : Nat → List Int32), okS k22 → okS k23 → okS k24 → okS k25 → okS k26 → okS k27 → okS k28 → okS k29 → okS k30 → SH k31 k32 → IV capc cnt h t ft stC stP stT lm sg zp zr zu zc s A → 1 ≤ ix.toInt → ix.toInt ≤ 1000 → (vs.length : Int) ≤ ix.toInt + n → M37 86 [.val (.ref 0), .val (.int cr), .val (.ref 1), .val (.int capc), .val (.int cnt), .val (.int h), .val (.int t), .val (.int ft), .val (.int stC), .val (.int stP), .val (.int stT), .val (.int lm), .val (.int sg), .val (.long zp), .second, .val (.long zr), .second, .val (.long zu), .second, .val (.long zc), .second, .val (.int ix), k22, k23, k24, k25, k26, k27, k28, k29, k30, k31, k32] [] (put 1 [(.array .int, vs.map Value.int)] s A []) Q
theorem and3 (x : Int32) : x &&& 3 = 0 ∨ x &&& 3 = 1 ∨ x &&& 3 = 2 ∨ x &&& 3 = 3 := by
  have b := and_bd x 3 (by decide)
  have c : (x &&& 3).toInt ≤ 3 := b.2
  obtain ⟨k, hk, e⟩ := rng (n := 4) b.1 (by omega)
  have hk' : k = 0 ∨ k = 1 ∨ k = 2 ∨ k = 3 := by omega
  rw [e]
  rcases hk' with rfl | rfl | rfl | rfl <;> decide
theorem i_63 : (63 : Int32).toInt = 63 := rfl
theorem i_m7 : (-7 : Int32).toInt = -7 := rfl
section Law
variable {Q : Option Value → AHeap → Prop} {vs : List Int32}
set_option maxRecDepth 1000000 in
set_option maxHeartbeats 20000000 in
theorem tail {n : Nat} (lp : LP vs Q n) {cr capc cnt h t ft stC stP stT lm sg ix : Int32} {zp zr zu zc : Int64} {k23 k24 k25 k26 k28 k29 k30 k31 k32 : Slot} {s : Nat → Int32} {A : Nat → List Int32} {lo op y27 : Int32} (o23 : okS k23) (o24 : okS k24) (o25 : okS k25) (o26 : okS k26) (o28 : okS k28) (o29 : okS k29) (o30 : okS k30) (sh : SH k31 k32) (iv : IV capc cnt h t ft stC stP stT lm sg zp zr zu zc s A) (hop : (op = 3 ∧ ¬ lm < lo) ∨ (¬ op = 3 ∧ lm = lo)) (hx1 : 1 ≤ ix.toInt) (hx2 : ix.toInt + 5 ≤ 1000) (hx3 : (vs.length : Int) ≤ ix.toInt + 5 + n) : M37 743 [.val (.ref 0), .val (.int cr), .val (.ref 1), .val (.int capc), .val (.int cnt), .val (.int h), .val (.int t), .val (.int ft), .val (.int stC), .val (.int stP), .val (.int stT), .val (.int lo), .val (.int sg), .val (.long zp), .second, .val (.long zr), .second, .val (.long zu), .second, .val (.long zc), .second, .val (.int ix), .val (.int op), k23, k24, k25, k26, .val (.int y27), k28, k29, k30, k31, k32] [] (put 1 [(.array .int, vs.map Value.int)] s A []) Q := by
  have iv' := iv
  obtain ⟨hL, ⟨e0, e1, e2, e3, e4, e9, e10⟩, ⟨p1, p2, p3, p4, p5, p6, p7, p8, p9, p10⟩, hsg, pr, ic⟩ := iv
  have x5 : (ix + 5).toInt = ix.toInt + 5 := add_i (by rw [i_5]; omega) (by rw [i_5]; omega)
  have y8 : (A 8).length = 4 := (hL 8).trans A0l_8
  have c0 : (XT.ushrL zc 0 &&& 255).toInt32 = getA (A 8) 0 := (ic 0 (by decide) (by decide)).1
  have c1 : (XT.ushrL zc 8 &&& 255).toInt32 = getA (A 8) 1 := (ic 1 (by decide) (by decide)).1
  have c2 : (XT.ushrL zc 16 &&& 255).toInt32 = getA (A 8) 2 := (ic 2 (by decide) (by decide)).1
  have c3 : (XT.ushrL zc 24 &&& 255).toInt32 = getA (A 8) 3 := (ic 3 (by decide) (by decide)).1
  have n0 : ¬ cnt < 0 := by rw [nn_i]; exact p3
  rcases hop with ⟨rfl, g⟩ | ⟨g1, g2⟩
  · simp [g, e1, e2, e3, e9, e10, n0, lt_irr, inB_iff, y8, c0, c1, c2, c3, o28, m37_743, m37_744, m37_747i, m37_749, m37_751, m37_752, m37_755, m37_757, m37_759, m37_762, m37_765, m37_767, m37_769, m37_772, own_k37_32, own_k37_33, own_k37_34, m37_850, m37_852, m37_853, m37_856, m37_857, m37_859, m37_862, m37_864, m37_866, m37_869, m37_872, m37_873, m37_874, m37_877, m37_880, m37_883, own_k3_0, own_k4_0, own_k5_0, own_k6_0, own_k7_0, own_k8_0, own_k9_0, own_k10_0, own_k11_0, own_k34_0, -Int64.toInt32_and, -Int64.toInt32_or, -Int64.toInt32_xor, -Int32.toInt64_and, -Int32.toInt64_or, -Int32.toInt64_xor, -Int32.toInt8_and, -Int32.toUInt32_and, -Int32.toUInt32_or, -Int32.toUInt32_xor, nb0, nb1, ou_a, Option.toList_some, Option.toList_none, List.nil_append, List.cons_append]
    exact lp _ _ _ _ _ _ _ _ _ _ _ _ _ _ _ _ _ _ _ _ _ _ _ _ _ _ _ s A (okS_i _) o23 o24 o25 o26 (okS_i _) (okS_i _) o29 o30 sh iv' (by rw [x5]; omega) (by rw [x5]; omega) (by rw [x5]; omega)
  · subst g2
    simp [g1, e1, e2, e3, e9, e10, n0, lt_irr, inB_iff, y8, c0, c1, c2, c3, o28, m37_743, m37_744, m37_747i, m37_749, m37_751, m37_752, m37_755, m37_757, m37_759, m37_762, m37_765, m37_767, m37_769, m37_772, own_k37_32, own_k37_33, own_k37_34, m37_850, m37_852, m37_853, m37_856, m37_857, m37_859, m37_862, m37_864, m37_866, m37_869, m37_872, m37_873, m37_874, m37_877, m37_880, m37_883, own_k3_0, own_k4_0, own_k5_0, own_k6_0, own_k7_0, own_k8_0, own_k9_0, own_k10_0, own_k11_0, own_k34_0, -Int64.toInt32_and, -Int64.toInt32_or, -Int64.toInt32_xor, -Int32.toInt64_and, -Int32.toInt64_or, -Int32.toInt64_xor, -Int32.toInt8_and, -Int32.toUInt32_and, -Int32.toUInt32_or, -Int32.toUInt32_xor, nb0, nb1, ou_a, Option.toList_some, Option.toList_none, List.nil_append, List.cons_append]
    exact lp _ _ _ _ _ _ _ _ _ _ _ _ _ _ _ _ _ _ _ _ _ _ _ _ _ _ _ s A (okS_i _) o23 o24 o25 o26 (okS_i _) (okS_i _) o29 o30 sh iv' (by rw [x5]; omega) (by rw [x5]; omega) (by rw [x5]; omega)
set_option maxRecDepth 1000000 in
set_option maxHeartbeats 20000000 in
theorem op0c {n : Nat} (lp : LP vs Q n) {cr capc cnt h t ft stC stP stT lm sg ix : Int32} {zp zr zu zc : Int64} {k31 k32 : Slot} {s : Nat → Int32} {A : Nat → List Int32} {aa bb cc dd pe dl w p : Int32} (sh : SH k31 k32) (iv : IV capc cnt h t ft stC stP stT lm sg zp zr zu zc s A) (hx1 : 1 ≤ ix.toInt) (hx2 : ix.toInt + 5 ≤ 1000) (hx3 : (vs.length : Int) ≤ ix.toInt + 5 + n) (w1 : 1 ≤ w.toInt) (w8 : w.toInt ≤ 8) (q0 : 0 ≤ p.toInt) (q1 : p.toInt ≤ 63) : M37 196 [.val (.ref 0), .val (.int cr), .val (.ref 1), .val (.int capc), .val (.int cnt), .val (.int h), .val (.int t), .val (.int ft), .val (.int stC), .val (.int stP), .val (.int stT), .val (.int lm), .val (.int sg), .val (.long zp), .second, .val (.long zr), .second, .val (.long zu), .second, .val (.long zc), .second, .val (.int ix), .val (.int 0), .val (.int aa), .val (.int bb), .val (.int cc), .val (.int dd), .val (.int pe), .val (.int dl), .val (.int w), .val (.int p), k31, k32] [] (put 1 [(.array .int, vs.map Value.int)] s A []) Q := by
  have iv' := iv
  obtain ⟨hL, ⟨e0, e1, e2, e3, e4, e9, e10⟩, ⟨p1, p2, p3, p4, p5, p6, p7, p8, p9, p10⟩, hsg, pr, ic⟩ := iv
  have gs : GS s A := ⟨hL, by rw [e1]; exact p3, by rw [e1]; omega⟩
  rw [m37_196]
  refine n197 sh (fun k ok => ?_)
  by_cases f0 : cnt = capc
  · have d0 : ¬ s 1 < s 0 := by rw [e0, e1, f0, lt_irr]; exact fun z => z
    simp [eq_true f0, cmp0, ok, m37_199, m37_201, m37_202, own_k37_11, own_k37_12, m37_270, m37_272i, m37_274, m37_275, m37_277, m37_279, m37_281, m37_283, -Int64.toInt32_and, -Int64.toInt32_or, -Int64.toInt32_xor, -Int32.toInt64_and, -Int32.toInt64_or, -Int32.toInt64_xor, -Int32.toInt8_and, -Int32.toUInt32_and, -Int32.toUInt32_or, -Int32.toUInt32_xor, nb0, nb1, ou_a, Option.toList_some, Option.toList_none, List.nil_append, List.cons_append]
    refine b13a d0 0 _ _ _ ?_
    simp [ok, m37_286u, m37_286i, m37_286r, m37_286g, m37_288, m37_290, m37_292, m37_295, own_k37_14, nb0, nb1, ou_a, Option.toList_some, Option.toList_none, List.nil_append, List.cons_append]
    exact tail lp (okS_i _) (okS_i _) (okS_i _) (okS_i _) (okS_i _) (okS_i _) (okS_i _) (SH_i _ _) iv' (Or.inr ⟨by decide, rfl⟩) hx1 hx2 hx3
  have d0 : s 1 < s 0 := by
    have : cnt.toInt ≠ capc.toInt := fun z => f0 (Int32.toInt_inj.mp z)
    rw [e0, e1, lt_i]; omega
  by_cases f1 : pe < 1
  · simp [f0, f1, cmp0, ok, m37_199, m37_201, m37_202, own_k37_11, own_k37_12, m37_270, m37_272i, m37_274, m37_275, m37_277, m37_279, m37_281, m37_283, -Int64.toInt32_and, -Int64.toInt32_or, -Int64.toInt32_xor, -Int32.toInt64_and, -Int32.toInt64_or, -Int32.toInt64_xor, -Int32.toInt8_and, -Int32.toUInt32_and, -Int32.toUInt32_or, -Int32.toUInt32_xor, nb0, nb1, ou_a, Option.toList_some, Option.toList_none, List.nil_append, List.cons_append]
    refine b13b d0 (Or.inl f1) 0 _ _ _ ?_
    simp [ok, m37_286u, m37_286i, m37_286r, m37_286g, m37_288, m37_290, m37_292, m37_295, own_k37_14, nb0, nb1, ou_a, Option.toList_some, Option.toList_none, List.nil_append, List.cons_append]
    exact tail lp (okS_i _) (okS_i _) (okS_i _) (okS_i _) (okS_i _) (okS_i _) (okS_i _) (SH_i _ _) iv' (Or.inr ⟨by decide, rfl⟩) hx1 hx2 hx3
  by_cases f2 : 840 < pe
  · simp [f0, f1, f2, cmp0, ok, m37_199, m37_201, m37_202, own_k37_11, own_k37_12, m37_270, m37_272i, m37_274, m37_275, m37_277, m37_279, m37_281, m37_283, -Int64.toInt32_and, -Int64.toInt32_or, -Int64.toInt32_xor, -Int32.toInt64_and, -Int32.toInt64_or, -Int32.toInt64_xor, -Int32.toInt8_and, -Int32.toUInt32_and, -Int32.toUInt32_or, -Int32.toUInt32_xor, nb0, nb1, ou_a, Option.toList_some, Option.toList_none, List.nil_append, List.cons_append]
    refine b13b d0 (Or.inr (Or.inl f2)) 0 _ _ _ ?_
    simp [ok, m37_286u, m37_286i, m37_286r, m37_286g, m37_288, m37_290, m37_292, m37_295, own_k37_14, nb0, nb1, ou_a, Option.toList_some, Option.toList_none, List.nil_append, List.cons_append]
    exact tail lp (okS_i _) (okS_i _) (okS_i _) (okS_i _) (okS_i _) (okS_i _) (okS_i _) (SH_i _ _) iv' (Or.inr ⟨by decide, rfl⟩) hx1 hx2 hx3
  by_cases f3 : dl < 1
  · simp [f0, f1, f2, f3, cmp0, ok, m37_199, m37_201, m37_202, own_k37_11, own_k37_12, m37_270, m37_272i, m37_274, m37_275, m37_277, m37_279, m37_281, m37_283, -Int64.toInt32_and, -Int64.toInt32_or, -Int64.toInt32_xor, -Int32.toInt64_and, -Int32.toInt64_or, -Int32.toInt64_xor, -Int32.toInt8_and, -Int32.toUInt32_and, -Int32.toUInt32_or, -Int32.toUInt32_xor, nb0, nb1, ou_a, Option.toList_some, Option.toList_none, List.nil_append, List.cons_append]
    refine b13b d0 (Or.inr (Or.inr (Or.inl f3))) 0 _ _ _ ?_
    simp [ok, m37_286u, m37_286i, m37_286r, m37_286g, m37_288, m37_290, m37_292, m37_295, own_k37_14, nb0, nb1, ou_a, Option.toList_some, Option.toList_none, List.nil_append, List.cons_append]
    exact tail lp (okS_i _) (okS_i _) (okS_i _) (okS_i _) (okS_i _) (okS_i _) (okS_i _) (SH_i _ _) iv' (Or.inr ⟨by decide, rfl⟩) hx1 hx2 hx3
  by_cases f4 : pe < dl
  · simp [f0, f1, f2, f3, f4, cmp0, ok, m37_199, m37_201, m37_202, own_k37_11, own_k37_12, m37_270, m37_272i, m37_274, m37_275, m37_277, m37_279, m37_281, m37_283, -Int64.toInt32_and, -Int64.toInt32_or, -Int64.toInt32_xor, -Int32.toInt64_and, -Int32.toInt64_or, -Int32.toInt64_xor, -Int32.toInt8_and, -Int32.toUInt32_and, -Int32.toUInt32_or, -Int32.toUInt32_xor, nb0, nb1, ou_a, Option.toList_some, Option.toList_none, List.nil_append, List.cons_append]
    refine b13b d0 (Or.inr (Or.inr (Or.inr (Or.inl f4)))) 0 _ _ _ ?_
    simp [ok, m37_286u, m37_286i, m37_286r, m37_286g, m37_288, m37_290, m37_292, m37_295, own_k37_14, nb0, nb1, ou_a, Option.toList_some, Option.toList_none, List.nil_append, List.cons_append]
    exact tail lp (okS_i _) (okS_i _) (okS_i _) (okS_i _) (okS_i _) (okS_i _) (okS_i _) (SH_i _ _) iv' (Or.inr ⟨by decide, rfl⟩) hx1 hx2 hx3
  by_cases f6 : dl < w
  · simp [f0, f1, f2, f3, f4, f6, cmp0, ok, m37_199, m37_201, m37_202, own_k37_11, own_k37_12, m37_270, m37_272i, m37_274, m37_275, m37_277, m37_279, m37_281, m37_283, -Int64.toInt32_and, -Int64.toInt32_or, -Int64.toInt32_xor, -Int32.toInt64_and, -Int32.toInt64_or, -Int32.toInt64_xor, -Int32.toInt8_and, -Int32.toUInt32_and, -Int32.toUInt32_or, -Int32.toUInt32_xor, nb0, nb1, ou_a, Option.toList_some, Option.toList_none, List.nil_append, List.cons_append]
    refine b13b d0 (Or.inr (Or.inr (Or.inr (Or.inr (Or.inr f6))))) 0 _ _ _ ?_
    simp [ok, m37_286u, m37_286i, m37_286r, m37_286g, m37_288, m37_290, m37_292, m37_295, own_k37_14, nb0, nb1, ou_a, Option.toList_some, Option.toList_none, List.nil_append, List.cons_append]
    exact tail lp (okS_i _) (okS_i _) (okS_i _) (okS_i _) (okS_i _) (okS_i _) (okS_i _) (SH_i _ _) iv' (Or.inr ⟨by decide, rfl⟩) hx1 hx2 hx3
  have f5 : ¬ w < 1 := by rw [lt_i, i_1]; omega
  have f8 : ¬ 63 < p := by rw [lt_i, i_63]; omega
  by_cases f7 : p < 1
  · simp [f0, f1, f2, f3, f4, f6, f7, cmp0, ok, m37_199, m37_201, m37_202, own_k37_11, own_k37_12, m37_270, m37_272i, m37_274, m37_275, m37_277, m37_279, m37_281, m37_283, -Int64.toInt32_and, -Int64.toInt32_or, -Int64.toInt32_xor, -Int32.toInt64_and, -Int32.toInt64_or, -Int32.toInt64_xor, -Int32.toInt8_and, -Int32.toUInt32_and, -Int32.toUInt32_or, -Int32.toUInt32_xor, nb0, nb1, ou_a, Option.toList_some, Option.toList_none, List.nil_append, List.cons_append]
    refine b13c gs d0 f1 f2 f3 f4 f5 f6 f8 (Or.inl f7) 0 _ _ _ ?_
    simp [ok, m37_286u, m37_286i, m37_286r, m37_286g, m37_288, m37_290, m37_292, m37_295, own_k37_14, nb0, nb1, ou_a, Option.toList_some, Option.toList_none, List.nil_append, List.cons_append]
    exact tail lp (okS_i _) (okS_i _) (okS_i _) (okS_i _) (okS_i _) (okS_i _) (okS_i _) (SH_i _ _) iv' (Or.inr ⟨by decide, rfl⟩) hx1 hx2 hx3
  have f7' := f7
  rw [lt_i, i_1] at f7'
  by_cases bt : XT.ushrL zp p &&& 1 = 0
  · have nt := (pr p (by omega) q1).mp bt
    obtain ⟨A', ⟨g1, g2, g3⟩, hv⟩ := b13d gs (p := pe) (d := dl) (w := w) (q := p) d0 f1 f2 f3 f4 f5 f6 f7 f8 (fun j j0 j1 => nt j j0 (by rw [e1] at j1; exact j1))
    have iv2 : IV capc cnt h t ft w p pe lm 1 zp 0 0 zc (ou (ou (ou (ou (ou s 4 1) 5 pe) 6 dl) 7 w) 8 p) A' := by
      have f1' := f1
      have f2' := f2
      rw [lt_i, i_1] at f1'
      rw [lt_i, i_840] at f2'
      have : cnt.toInt ≠ capc.toInt := fun z => f0 (Int32.toInt_inj.mp z)
      refine ⟨g1, ⟨e0, e1, e2, e3, rfl, e9, e10⟩, ⟨p1, p2, p3, p4, p5, p6, p7, p8, p9, p10⟩, Or.inr ⟨rfl, rfl, rfl, rfl, by omega, by omega, by omega, w1, w8, by omega, q1, IR_0 g3, IU_0 g3⟩, PR_ext (g2 3 (by decide) (by decide)) pr, IC_ext (g2 3 (by decide) (by decide)) (g2 5 (by decide) (by decide)) (g2 8 (by decide) (by decide)) ic⟩
    simp [f0, f1, f2, f3, f4, f6, f7, bt, cmp0, ok, m37_199, m37_201, m37_202, own_k37_11, own_k37_12, m37_270, m37_272i, m37_274, m37_275, m37_277, m37_279, m37_281, m37_283, -Int64.toInt32_and, -Int64.toInt32_or, -Int64.toInt32_xor, -Int32.toInt64_and, -Int32.toInt64_or, -Int32.toInt64_xor, -Int32.toInt8_and, -Int32.toUInt32_and, -Int32.toUInt32_or, -Int32.toUInt32_xor, nb0, nb1, ou_a, Option.toList_some, Option.toList_none, List.nil_append, List.cons_append]
    refine hv 0 _ _ _ ?_
    simp [ok, m37_286u, m37_286i, m37_286r, m37_286g, m37_288, m37_290, m37_292, m37_295, own_k37_14, nb0, nb1, ou_a, Option.toList_some, Option.toList_none, List.nil_append, List.cons_append]
    exact tail lp (okS_i _) (okS_i _) (okS_i _) (okS_i _) (okS_i _) (okS_i _) (okS_i _) (SH_i _ _) iv2 (Or.inr ⟨by decide, rfl⟩) hx1 hx2 hx3
  · have tk : ∃ j : Int32, 0 ≤ j.toInt ∧ j.toInt < (s 1).toInt ∧ getA (A 3) j = p := by
      by_cases ex : ∃ j : Int32, 0 ≤ j.toInt ∧ j.toInt < (s 1).toInt ∧ getA (A 3) j = p
      · exact ex
      · exact absurd ((pr p (by omega) q1).mpr (fun i i0 i1 z => ex ⟨i, i0, by rw [e1]; exact i1, z⟩)) bt
    simp [f0, f1, f2, f3, f4, f6, f7, bt, cmp0, ok, m37_199, m37_201, m37_202, own_k37_11, own_k37_12, m37_270, m37_272i, m37_274, m37_275, m37_277, m37_279, m37_281, m37_283, -Int64.toInt32_and, -Int64.toInt32_or, -Int64.toInt32_xor, -Int32.toInt64_and, -Int32.toInt64_or, -Int32.toInt64_xor, -Int32.toInt8_and, -Int32.toUInt32_and, -Int32.toUInt32_or, -Int32.toUInt32_xor, nb0, nb1, ou_a, Option.toList_some, Option.toList_none, List.nil_append, List.cons_append]
    refine b13c gs d0 f1 f2 f3 f4 f5 f6 f8 (Or.inr tk) 0 _ _ _ ?_
    simp [ok, m37_286u, m37_286i, m37_286r, m37_286g, m37_288, m37_290, m37_292, m37_295, own_k37_14, nb0, nb1, ou_a, Option.toList_some, Option.toList_none, List.nil_append, List.cons_append]
    exact tail lp (okS_i _) (okS_i _) (okS_i _) (okS_i _) (okS_i _) (okS_i _) (okS_i _) (SH_i _ _) iv' (Or.inr ⟨by decide, rfl⟩) hx1 hx2 hx3
theorem w_bd (x : Int32) : 1 ≤ (1 + (x &&& 7)).toInt ∧ (1 + (x &&& 7)).toInt ≤ 8 := by
  have b := and_bd x 7 (by decide)
  have c : (x &&& 7).toInt ≤ 7 := b.2
  have e := add_i (a := 1) (b := x &&& 7) (by rw [i_1]; omega) (by rw [i_1]; omega)
  rw [e, i_1]
  omega
theorem m_bd (x m : Int32) (k : Int) (hm : m.toBitVec.toNat < 2147483648) (hk : (m.toBitVec.toNat : Int) = k) : 0 ≤ (x &&& m).toInt ∧ (x &&& m).toInt ≤ k := by
  have b := and_bd x m hm
  rw [hk] at b
  exact b
set_option maxRecDepth 1000000 in
set_option maxHeartbeats 20000000 in
theorem op0 {n : Nat} (lp : LP vs Q n) {cr capc cnt h t ft stC stP stT lm sg ix : Int32} {zp zr zu zc : Int64} {k22 k23 k24 k25 k26 k27 k28 k29 k30 k31 k32 : Slot} {s : Nat → Int32} {A : Nat → List Int32} (o22 : okS k22) (o23 : okS k23) (o24 : okS k24) (o25 : okS k25) (o26 : okS k26) (o27 : okS k27) (o28 : okS k28) (o29 : okS k29) (o30 : okS k30) (sh : SH k31 k32) (iv : IV capc cnt h t ft stC stP stT lm sg zp zr zu zc s A) (hx1 : 1 ≤ ix.toInt) (hx2 : ix.toInt + 5 ≤ 1000) (hx3 : (vs.length : Int) ≤ ix.toInt + 5 + n) (x0 : inB ix vs) (x1 : inB (ix + 1) vs) (x2 : inB (ix + 2) vs) (x3 : inB (ix + 3) vs) (x4 : inB (ix + 4) vs) (ha : getA vs ix &&& 3 = 0) : M37 95 [.val (.ref 0), .val (.int cr), .val (.ref 1), .val (.int capc), .val (.int cnt), .val (.int h), .val (.int t), .val (.int ft), .val (.int stC), .val (.int stP), .val (.int stT), .val (.int lm), .val (.int sg), .val (.long zp), .second, .val (.long zr), .second, .val (.long zu), .second, .val (.long zc), .second, .val (.int ix), k22, k23, k24, k25, k26, k27, k28, k29, k30, k31, k32] [] (put 1 [(.array .int, vs.map Value.int)] s A []) Q := by
  by_cases b1 : getA vs (ix + 1) &&& 7 = 0 <;>
  · simp [b1, x0, x1, x2, x3, x4, ha, okS_i, o22, o23, o24, o25, o26, o27, o28, o29, o30, m37_95, m37_96, m37_98, m37_98p, m37_99, m37_100, m37_101u, m37_101i, m37_101r, m37_101g, own_k37_5, own_k37_6, own_k37_7, own_k37_8, own_k37_9, m37_187g, m37_189, m37_191, m37_193, m37_194u, m37_194i, m37_194r, m37_194g, -Int64.toInt32_and, -Int64.toInt32_or, -Int64.toInt32_xor, -Int32.toInt64_and, -Int32.toInt64_or, -Int32.toInt64_xor, -Int32.toInt8_and, -Int32.toUInt32_and, -Int32.toUInt32_or, -Int32.toUInt32_xor, nb0, nb1, ou_a, Option.toList_some, Option.toList_none, List.nil_append, List.cons_append]
    exact op0c lp sh iv hx1 hx2 hx3 (w_bd _).1 (w_bd _).2 (m_bd _ 63 63 (by decide) rfl).1 (m_bd _ 63 63 (by decide) rfl).2
set_option maxRecDepth 1000000 in
set_option maxHeartbeats 20000000 in
theorem op1c {n : Nat} (lp : LP vs Q n) {cr capc cnt h t ft stC stP stT lm sg ix : Int32} {zp zr zu zc : Int64} {k30 k31 k32 : Slot} {s : Nat → Int32} {A : Nat → List Int32} {aa bb cc dd re sx ln : Int32} (o30 : okS k30) (sh : SH k31 k32) (iv : IV capc cnt h t ft stC stP stT lm sg zp zr zu zc s A) (hx1 : 1 ≤ ix.toInt) (hx2 : ix.toInt + 5 ≤ 1000) (hx3 : (vs.length : Int) ≤ ix.toInt + 5 + n) (r0 : 0 ≤ re.toInt) (r1 : re.toInt ≤ 4) (s0 : 0 ≤ sx.toInt) (s1 : sx.toInt ≤ 7) (l0 : 0 ≤ ln.toInt) (l1 : ln.toInt ≤ 3) : M37 365 [.val (.ref 0), .val (.int cr), .val (.ref 1), .val (.int capc), .val (.int cnt), .val (.int h), .val (.int t), .val (.int ft), .val (.int stC), .val (.int stP), .val (.int stT), .val (.int lm), .val (.int sg), .val (.long zp), .second, .val (.long zr), .second, .val (.long zu), .second, .val (.long zc), .second, .val (.int ix), .val (.int 1), .val (.int aa), .val (.int bb), .val (.int cc), .val (.int dd), .val (.int re), .val (.int sx), .val (.int ln), k30, k31, k32] [] (put 1 [(.array .int, vs.map Value.int)] s A []) Q := by
  have iv' := iv
  obtain ⟨hL, ⟨e0, e1, e2, e3, e4, e9, e10⟩, ⟨p1, p2, p3, p4, p5, p6, p7, p8, p9, p10⟩, hsg, pr, ic⟩ := iv
  have f1 : ¬ re < 0 := by rw [nn_i]; exact r0
  have f3 : ¬ sx < 0 := by rw [nn_i]; exact s0
  simp [o30, sh, n369, m37_365, m37_366u, m37_366i, m37_366r, m37_366g, m37_368, nb0, nb1, ou_a, Option.toList_some, Option.toList_none, List.nil_append, List.cons_append]
  rcases hsg with rfl | ⟨rfl, e5, e7, e8, y1, y2, y3, y4, y5, y6, y7, ir, iu⟩
  · simp [e4, cmp0, m37_371, m37_373, m37_376, m37_378i, m37_380, m37_383, m37_385, m37_386, m37_389, m37_391, own_k37_18, own_k37_19, m37_448, m37_449, m37_452, m37_454i, m37_456, m37_457, m37_459, m37_461, m37_463, -Int64.toInt32_and, -Int64.toInt32_or, -Int64.toInt32_xor, -Int32.toInt64_and, -Int32.toInt64_or, -Int32.toInt64_xor, -Int32.toInt8_and, -Int32.toUInt32_and, -Int32.toUInt32_or, -Int32.toUInt32_xor, nb0, nb1, ou_a, Option.toList_some, Option.toList_none, List.nil_append, List.cons_append]
    refine c12a e4 0 _ _ _ ?_
    simp [m37_466, m37_468, m37_471, m37_472, m37_473, m37_475, m37_478, m37_480, m37_481, m37_483, m37_484, m37_485, m37_487, m37_489, m37_491, m37_492, m37_494, nb0, nb1, ou_a, Option.toList_some, Option.toList_none, List.nil_append, List.cons_append]
    exact tail lp (okS_i _) (okS_i _) (okS_i _) (okS_i _) (okS_i _) (okS_i _) (okS_i _) (SH_l _) iv' (Or.inr ⟨by decide, rfl⟩) hx1 hx2 hx3
  have f0 : ¬ s 4 = 0 := by rw [e4]; decide
  by_cases g1 : 3 < re
  · simp [g1, cmp0, m37_371, m37_373, m37_376, m37_378i, m37_380, m37_383, m37_385, m37_386, m37_389, m37_391, own_k37_18, own_k37_19, m37_448, m37_449, m37_452, m37_454i, m37_456, m37_457, m37_459, m37_461, m37_463, -Int64.toInt32_and, -Int64.toInt32_or, -Int64.toInt32_xor, -Int32.toInt64_and, -Int32.toInt64_or, -Int32.toInt64_xor, -Int32.toInt8_and, -Int32.toUInt32_and, -Int32.toUInt32_or, -Int32.toUInt32_xor, nb0, nb1, ou_a, Option.toList_some, Option.toList_none, List.nil_append, List.cons_append]
    refine c12b f0 f1 f3 (Or.inl (by rw [lt_i, i_4]; rw [lt_i, i_3] at g1; omega)) 0 _ _ _ ?_
    simp [m37_466, m37_468, m37_471, m37_472, m37_473, m37_475, m37_478, m37_480, m37_481, m37_483, m37_484, m37_485, m37_487, m37_489, m37_491, m37_492, m37_494, nb0, nb1, ou_a, Option.toList_some, Option.toList_none, List.nil_append, List.cons_append]
    exact tail lp (okS_i _) (okS_i _) (okS_i _) (okS_i _) (okS_i _) (okS_i _) (okS_i _) (SH_l _) iv' (Or.inr ⟨by decide, rfl⟩) hx1 hx2 hx3
  by_cases g2 : ln < 1
  · simp [g1, g2, cmp0, m37_371, m37_373, m37_376, m37_378i, m37_380, m37_383, m37_385, m37_386, m37_389, m37_391, own_k37_18, own_k37_19, m37_448, m37_449, m37_452, m37_454i, m37_456, m37_457, m37_459, m37_461, m37_463, -Int64.toInt32_and, -Int64.toInt32_or, -Int64.toInt32_xor, -Int32.toInt64_and, -Int32.toInt64_or, -Int32.toInt64_xor, -Int32.toInt8_and, -Int32.toUInt32_and, -Int32.toUInt32_or, -Int32.toUInt32_xor, nb0, nb1, ou_a, Option.toList_some, Option.toList_none, List.nil_append, List.cons_append]
    refine c12b f0 f1 f3 (Or.inr (Or.inl g2)) 0 _ _ _ ?_
    simp [m37_466, m37_468, m37_471, m37_472, m37_473, m37_475, m37_478, m37_480, m37_481, m37_483, m37_484, m37_485, m37_487, m37_489, m37_491, m37_492, m37_494, nb0, nb1, ou_a, Option.toList_some, Option.toList_none, List.nil_append, List.cons_append]
    exact tail lp (okS_i _) (okS_i _) (okS_i _) (okS_i _) (okS_i _) (okS_i _) (okS_i _) (SH_l _) iv' (Or.inr ⟨by decide, rfl⟩) hx1 hx2 hx3
  by_cases g3 : stC < sx
  · simp [g1, g2, g3, cmp0, m37_371, m37_373, m37_376, m37_378i, m37_380, m37_383, m37_385, m37_386, m37_389, m37_391, own_k37_18, own_k37_19, m37_448, m37_449, m37_452, m37_454i, m37_456, m37_457, m37_459, m37_461, m37_463, -Int64.toInt32_and, -Int64.toInt32_or, -Int64.toInt32_xor, -Int32.toInt64_and, -Int32.toInt64_or, -Int32.toInt64_xor, -Int32.toInt8_and, -Int32.toUInt32_and, -Int32.toUInt32_or, -Int32.toUInt32_xor, nb0, nb1, ou_a, Option.toList_some, Option.toList_none, List.nil_append, List.cons_append]
    refine c12b f0 f1 f3 (Or.inr (Or.inr (Or.inl (by rw [e7]; exact g3)))) 0 _ _ _ ?_
    simp [m37_466, m37_468, m37_471, m37_472, m37_473, m37_475, m37_478, m37_480, m37_481, m37_483, m37_484, m37_485, m37_487, m37_489, m37_491, m37_492, m37_494, nb0, nb1, ou_a, Option.toList_some, Option.toList_none, List.nil_append, List.cons_append]
    exact tail lp (okS_i _) (okS_i _) (okS_i _) (okS_i _) (okS_i _) (okS_i _) (okS_i _) (SH_l _) iv' (Or.inr ⟨by decide, rfl⟩) hx1 hx2 hx3
  by_cases g4 : stC - sx < ln
  · simp [g1, g2, g3, g4, cmp0, m37_371, m37_373, m37_376, m37_378i, m37_380, m37_383, m37_385, m37_386, m37_389, m37_391, own_k37_18, own_k37_19, m37_448, m37_449, m37_452, m37_454i, m37_456, m37_457, m37_459, m37_461, m37_463, -Int64.toInt32_and, -Int64.toInt32_or, -Int64.toInt32_xor, -Int32.toInt64_and, -Int32.toInt64_or, -Int32.toInt64_xor, -Int32.toInt8_and, -Int32.toUInt32_and, -Int32.toUInt32_or, -Int32.toUInt32_xor, nb0, nb1, ou_a, Option.toList_some, Option.toList_none, List.nil_append, List.cons_append]
    refine c12b f0 f1 f3 (Or.inr (Or.inr (Or.inr (by rw [e7]; exact g4)))) 0 _ _ _ ?_
    simp [m37_466, m37_468, m37_471, m37_472, m37_473, m37_475, m37_478, m37_480, m37_481, m37_483, m37_484, m37_485, m37_487, m37_489, m37_491, m37_492, m37_494, nb0, nb1, ou_a, Option.toList_some, Option.toList_none, List.nil_append, List.cons_append]
    exact tail lp (okS_i _) (okS_i _) (okS_i _) (okS_i _) (okS_i _) (okS_i _) (okS_i _) (SH_l _) iv' (Or.inr ⟨by decide, rfl⟩) hx1 hx2 hx3
  have f2 : re < 4 := by
    have q := g1
    rw [lt_i, i_3] at q
    rw [lt_i, i_4]; omega
  have f5 : ¬ s 7 < sx := by rw [e7]; exact g3
  have f6 : ¬ s 7 - sx < ln := by rw [e7]; exact g4
  have l1' : 1 ≤ ln.toInt := by
    have q := g2
    rw [lt_i, i_1] at q
    omega
  have r1' : re.toInt < 4 := by
    have q := f2
    rw [lt_i, i_4] at q
    exact q
  by_cases g5 : XT.ushrL zr re &&& 1 = 0
  · have f7 := (ir re r0 r1').mp g5
    by_cases g6 : zu &&& MK sx ln = 0
    · have nv := (iu sx ln s0 s1 l1' l1).mp g6
      have g7 := g6
      unfold MK at g7
      have iv2 : IV capc cnt h t ft stC stP stT lm 1 zp (zr ||| ((1 : Int64) <<< (re.toInt64 &&& 63))) (zu ||| MK sx ln) zc s (ou (ou A 9 (setA (A 9) re sx)) 10 (setA (A 10) re ln)) := ⟨LN_ou (LN_ou hL (by simp only [setA_len]; exact hL _)) (by simp only [setA_len]; exact hL _), ⟨e0, e1, e2, e3, e4, e9, e10⟩, ⟨p1, p2, p3, p4, p5, p6, p7, p8, p9, p10⟩, Or.inr ⟨rfl, e5, e7, e8, y1, y2, y3, y4, y5, y6, y7, IR_add hL ir f1 f2 l1', IU_add hL iu f1 f2 f7 s0 s1 l1' l1⟩, PR_ext (A := A) rfl pr, IC_ext (A := A) rfl rfl rfl ic⟩
      unfold MK at iv2
      simp [g1, g2, g3, g4, g5, g7, cmp0, m37_371, m37_373, m37_376, m37_378i, m37_380, m37_383, m37_385, m37_386, m37_389, m37_391, own_k37_18, own_k37_19, m37_448, m37_449, m37_452, m37_454i, m37_456, m37_457, m37_459, m37_461, m37_463, -Int64.toInt32_and, -Int64.toInt32_or, -Int64.toInt32_xor, -Int32.toInt64_and, -Int32.toInt64_or, -Int32.toInt64_xor, -Int32.toInt8_and, -Int32.toUInt32_and, -Int32.toUInt32_or, -Int32.toUInt32_xor, nb0, nb1, ou_a, Option.toList_some, Option.toList_none, List.nil_append, List.cons_append]
      refine c12d hL f0 f1 f2 f3 g2 f5 f6 f7 nv 0 _ _ _ ?_
      simp [m37_466, m37_468, m37_471, m37_472, m37_473, m37_475, m37_478, m37_480, m37_481, m37_483, m37_484, m37_485, m37_487, m37_489, m37_491, m37_492, m37_494, nb0, nb1, ou_a, Option.toList_some, Option.toList_none, List.nil_append, List.cons_append]
      exact tail lp (okS_i _) (okS_i _) (okS_i _) (okS_i _) (okS_i _) (okS_i _) (okS_i _) (SH_l _) iv2 (Or.inr ⟨by decide, rfl⟩) hx1 hx2 hx3
    · have g7 := g6
      unfold MK at g7
      have ov : ∃ j : Int32, 0 ≤ j.toInt ∧ j.toInt < 4 ∧ OV A sx ln j := by
        by_cases ex : ∃ j : Int32, 0 ≤ j.toInt ∧ j.toInt < 4 ∧ OV A sx ln j
        · exact ex
        · exact absurd ((iu sx ln s0 s1 l1' l1).mpr (fun j j0 j1 z => ex ⟨j, j0, j1, z⟩)) g6
      simp [g1, g2, g3, g4, g5, g7, cmp0, m37_371, m37_373, m37_376, m37_378i, m37_380, m37_383, m37_385, m37_386, m37_389, m37_391, own_k37_18, own_k37_19, m37_448, m37_449, m37_452, m37_454i, m37_456, m37_457, m37_459, m37_461, m37_463, -Int64.toInt32_and, -Int64.toInt32_or, -Int64.toInt32_xor, -Int32.toInt64_and, -Int32.toInt64_or, -Int32.toInt64_xor, -Int32.toInt8_and, -Int32.toUInt32_and, -Int32.toUInt32_or, -Int32.toUInt32_xor, nb0, nb1, ou_a, Option.toList_some, Option.toList_none, List.nil_append, List.cons_append]
      refine c12c hL f0 f1 f2 f3 g2 f5 f6 (Or.inr ov) 0 _ _ _ ?_
      simp [m37_466, m37_468, m37_471, m37_472, m37_473, m37_475, m37_478, m37_480, m37_481, m37_483, m37_484, m37_485, m37_487, m37_489, m37_491, m37_492, m37_494, nb0, nb1, ou_a, Option.toList_some, Option.toList_none, List.nil_append, List.cons_append]
      exact tail lp (okS_i _) (okS_i _) (okS_i _) (okS_i _) (okS_i _) (okS_i _) (okS_i _) (SH_l _) iv' (Or.inr ⟨by decide, rfl⟩) hx1 hx2 hx3
  · have f7 : 0 < getA (A 10) re := by
      by_cases z : 0 < getA (A 10) re
      · exact z
      · exact absurd ((ir re r0 r1').mpr z) g5
    simp [g1, g2, g3, g4, g5, cmp0, m37_371, m37_373, m37_376, m37_378i, m37_380, m37_383, m37_385, m37_386, m37_389, m37_391, own_k37_18, own_k37_19, m37_448, m37_449, m37_452, m37_454i, m37_456, m37_457, m37_459, m37_461, m37_463, -Int64.toInt32_and, -Int64.toInt32_or, -Int64.toInt32_xor, -Int32.toInt64_and, -Int32.toInt64_or, -Int32.toInt64_xor, -Int32.toInt8_and, -Int32.toUInt32_and, -Int32.toUInt32_or, -Int32.toUInt32_xor, nb0, nb1, ou_a, Option.toList_some, Option.toList_none, List.nil_append, List.cons_append]
    refine c12c hL f0 f1 f2 f3 g2 f5 f6 (Or.inl f7) 0 _ _ _ ?_
    simp [m37_466, m37_468, m37_471, m37_472, m37_473, m37_475, m37_478, m37_480, m37_481, m37_483, m37_484, m37_485, m37_487, m37_489, m37_491, m37_492, m37_494, nb0, nb1, ou_a, Option.toList_some, Option.toList_none, List.nil_append, List.cons_append]
    exact tail lp (okS_i _) (okS_i _) (okS_i _) (okS_i _) (okS_i _) (okS_i _) (okS_i _) (SH_l _) iv' (Or.inr ⟨by decide, rfl⟩) hx1 hx2 hx3
set_option maxRecDepth 1000000 in
set_option maxHeartbeats 20000000 in
theorem op1 {n : Nat} (lp : LP vs Q n) {cr capc cnt h t ft stC stP stT lm sg ix : Int32} {zp zr zu zc : Int64} {k22 k23 k24 k25 k26 k27 k28 k29 k30 k31 k32 : Slot} {s : Nat → Int32} {A : Nat → List Int32} (o22 : okS k22) (o23 : okS k23) (o24 : okS k24) (o25 : okS k25) (o26 : okS k26) (o27 : okS k27) (o28 : okS k28) (o29 : okS k29) (o30 : okS k30) (sh : SH k31 k32) (iv : IV capc cnt h t ft stC stP stT lm sg zp zr zu zc s A) (hx1 : 1 ≤ ix.toInt) (hx2 : ix.toInt + 5 ≤ 1000) (hx3 : (vs.length : Int) ≤ ix.toInt + 5 + n) (x0 : inB ix vs) (x1 : inB (ix + 1) vs) (x2 : inB (ix + 2) vs) (x3 : inB (ix + 3) vs) (x4 : inB (ix + 4) vs) (ha : getA vs ix &&& 3 = 1) : M37 95 [.val (.ref 0), .val (.int cr), .val (.ref 1), .val (.int capc), .val (.int cnt), .val (.int h), .val (.int t), .val (.int ft), .val (.int stC), .val (.int stP), .val (.int stT), .val (.int lm), .val (.int sg), .val (.long zp), .second, .val (.long zr), .second, .val (.long zu), .second, .val (.long zc), .second, .val (.int ix), k22, k23, k24, k25, k26, k27, k28, k29, k30, k31, k32] [] (put 1 [(.array .int, vs.map Value.int)] s A []) Q := by
  by_cases b1 : getA vs (ix + 1) &&& 7 = 7
  · simp [b1, x0, x1, x2, x3, x4, ha, okS_i, o22, o23, o24, o25, o26, o27, o28, o29, o30, m37_95, m37_96, m37_98, m37_98p, m37_99, m37_100, m37_101u, m37_101i, m37_101r, m37_101g, own_k37_5, own_k37_6, m37_130, m37_131, m37_132, m37_132p, m37_133u, m37_133i, m37_133r, m37_133g, m37_135, m37_137, own_k37_15, m37_350g, m37_352, m37_354, m37_356, m37_357u, m37_357i, m37_357r, m37_357g, m37_359, m37_361, m37_362, m37_363u, m37_363i, m37_363r, m37_363g, -Int64.toInt32_and, -Int64.toInt32_or, -Int64.toInt32_xor, -Int32.toInt64_and, -Int32.toInt64_or, -Int32.toInt64_xor, -Int32.toInt8_and, -Int32.toUInt32_and, -Int32.toUInt32_or, -Int32.toUInt32_xor, nb0, nb1, ou_a, Option.toList_some, Option.toList_none, List.nil_append, List.cons_append]
    exact op1c lp o30 sh iv hx1 hx2 hx3 (by decide) (by decide) (m_bd _ 7 7 (by decide) rfl).1 (m_bd _ 7 7 (by decide) rfl).2 (m_bd _ 3 3 (by decide) rfl).1 (m_bd _ 3 3 (by decide) rfl).2
  · simp [b1, x0, x1, x2, x3, x4, ha, okS_i, o22, o23, o24, o25, o26, o27, o28, o29, o30, m37_95, m37_96, m37_98, m37_98p, m37_99, m37_100, m37_101u, m37_101i, m37_101r, m37_101g, own_k37_5, own_k37_6, m37_130, m37_131, m37_132, m37_132p, m37_133u, m37_133i, m37_133r, m37_133g, m37_135, m37_137, own_k37_15, m37_350g, m37_352, m37_354, m37_356, m37_357u, m37_357i, m37_357r, m37_357g, m37_359, m37_361, m37_362, m37_363u, m37_363i, m37_363r, m37_363g, -Int64.toInt32_and, -Int64.toInt32_or, -Int64.toInt32_xor, -Int32.toInt64_and, -Int32.toInt64_or, -Int32.toInt64_xor, -Int32.toInt8_and, -Int32.toUInt32_and, -Int32.toUInt32_or, -Int32.toUInt32_xor, nb0, nb1, ou_a, Option.toList_some, Option.toList_none, List.nil_append, List.cons_append]
    have q := m_bd (getA vs (ix + 1)) 3 3 (by decide) rfl
    exact op1c lp o30 sh iv hx1 hx2 hx3 q.1 (by omega) (m_bd _ 7 7 (by decide) rfl).1 (m_bd _ 7 7 (by decide) rfl).2 (m_bd _ 3 3 (by decide) rfl).1 (m_bd _ 3 3 (by decide) rfl).2
set_option maxRecDepth 1000000 in
set_option maxHeartbeats 20000000 in
theorem cq {H : AHeap} {cr capc cnt h t ft stC stP stT lm sg ix q : Int32} {zp zr zu zc : Int64} {k22 k23 k24 k25 k26 k27 k28 k30 k31 k32 : Slot} (q0 : 0 ≤ q.toInt) (q1 : q.toInt < 4) (hQ : M37 628 [.val (.ref 0), .val (.int cr), .val (.ref 1), .val (.int capc), .val (.int cnt), .val (.int h), .val (.int t), .val (.int ft), .val (.int stC), .val (.int stP), .val (.int stT), .val (.int lm), .val (.int sg), .val (.long zp), .second, .val (.long zr), .second, .val (.long zu), .second, .val (.long (UPD zr stP zc q)), .second, .val (.int ix), k22, k23, k24, k25, k26, k27, k28, .val (.int (q + 1)), k30, k31, k32] [] H Q) : M37 628 [.val (.ref 0), .val (.int cr), .val (.ref 1), .val (.int capc), .val (.int cnt), .val (.int h), .val (.int t), .val (.int ft), .val (.int stC), .val (.int stP), .val (.int stT), .val (.int lm), .val (.int sg), .val (.long zp), .second, .val (.long zr), .second, .val (.long zu), .second, .val (.long zc), .second, .val (.int ix), k22, k23, k24, k25, k26, k27, k28, .val (.int q), k30, k31, k32] [] H Q := by
  have hlt : q < 4 := by rw [lt_i, i_4]; exact q1
  unfold UPD at hQ
  by_cases b1 : XT.ushrL zr q &&& 1 = 0
  · rw [if_neg (fun z => z.1 b1)] at hQ
    rw [m37_628]
    simp [hlt, cmp0, b1, own_k37_27, m37_660, m37_662, m37_664, m37_667, m37_669, m37_672, -Int64.toInt32_and, -Int64.toInt32_or, -Int64.toInt32_xor, -Int32.toInt64_and, -Int32.toInt64_or, -Int32.toInt64_xor, -Int32.toInt8_and, -Int32.toUInt32_and, -Int32.toUInt32_or, -Int32.toUInt32_xor, nb0, nb1, ou_a, Option.toList_some, Option.toList_none, List.nil_append, List.cons_append]
    exact hQ
  · by_cases b2 : GCe zc q < stP
    · rw [if_pos ⟨b1, b2⟩] at hQ
      unfold STC at hQ
      unfold GCe at b2
      rw [m37_628]
      simp [hlt, cmp0, b1, b2, own_k37_27, m37_660, m37_662, m37_664, m37_667, m37_669, m37_672, own_k34_0, own_k36_0, m36_22, -Int64.toInt32_and, -Int64.toInt32_or, -Int64.toInt32_xor, -Int32.toInt64_and, -Int32.toInt64_or, -Int32.toInt64_xor, -Int32.toInt8_and, -Int32.toUInt32_and, -Int32.toUInt32_or, -Int32.toUInt32_xor, nb0, nb1, ou_a, Option.toList_some, Option.toList_none, List.nil_append, List.cons_append]
      exact hQ
    · rw [if_neg (fun z => b2 z.2)] at hQ
      unfold GCe at b2
      rw [m37_628]
      simp [hlt, cmp0, b1, b2, own_k37_27, m37_660, m37_662, m37_664, m37_667, m37_669, m37_672, own_k34_0, -Int64.toInt32_and, -Int64.toInt32_or, -Int64.toInt32_xor, -Int32.toInt64_and, -Int32.toInt64_or, -Int32.toInt64_xor, -Int32.toInt8_and, -Int32.toUInt32_and, -Int32.toUInt32_or, -Int32.toUInt32_xor, nb0, nb1, ou_a, Option.toList_some, Option.toList_none, List.nil_append, List.cons_append]
      exact hQ
set_option maxRecDepth 1000000 in
set_option maxHeartbeats 20000000 in
theorem op2 {n : Nat} (lp : LP vs Q n) {cr capc cnt h t ft stC stP stT lm sg ix : Int32} {zp zr zu zc : Int64} {k22 k23 k24 k25 k26 k27 k28 k29 k30 k31 k32 : Slot} {s : Nat → Int32} {A : Nat → List Int32} (o22 : okS k22) (o23 : okS k23) (o24 : okS k24) (o25 : okS k25) (o26 : okS k26) (o27 : okS k27) (o28 : okS k28) (o29 : okS k29) (o30 : okS k30) (sh : SH k31 k32) (iv : IV capc cnt h t ft stC stP stT lm sg zp zr zu zc s A) (hx1 : 1 ≤ ix.toInt) (hx2 : ix.toInt + 5 ≤ 1000) (hx3 : (vs.length : Int) ≤ ix.toInt + 5 + n) (x0 : inB ix vs) (x1 : inB (ix + 1) vs) (x2 : inB (ix + 2) vs) (x3 : inB (ix + 3) vs) (x4 : inB (ix + 4) vs) (ha : getA vs ix &&& 3 = 2) : M37 95 [.val (.ref 0), .val (.int cr), .val (.ref 1), .val (.int capc), .val (.int cnt), .val (.int h), .val (.int t), .val (.int ft), .val (.int stC), .val (.int stP), .val (.int stT), .val (.int lm), .val (.int sg), .val (.long zp), .second, .val (.long zr), .second, .val (.long zu), .second, .val (.long zc), .second, .val (.int ix), k22, k23, k24, k25, k26, k27, k28, k29, k30, k31, k32] [] (put 1 [(.array .int, vs.map Value.int)] s A []) Q := by
  have iv' := iv
  obtain ⟨hL, ⟨e0, e1, e2, e3, e4, e9, e10⟩, ⟨p1, p2, p3, p4, p5, p6, p7, p8, p9, p10⟩, hsg, pr, ic⟩ := iv
  simp [x0, x1, x2, x3, x4, ha, okS_i, o22, o23, o24, o25, o26, o27, o28, o29, o30, m37_95, m37_96, m37_98, m37_98p, m37_99, m37_100, m37_101u, m37_101i, m37_101r, m37_101g, own_k37_5, own_k37_6, m37_130, m37_131, m37_132, m37_132p, m37_133u, m37_133i, m37_133r, m37_133g, m37_135, m37_137, m37_326, m37_328, m37_329, m37_497, m37_499, m37_500, m37_503, m37_504, -Int64.toInt32_and, -Int64.toInt32_or, -Int64.toInt32_xor, -Int32.toInt64_and, -Int32.toInt64_or, -Int32.toInt64_xor, -Int32.toInt8_and, -Int32.toUInt32_and, -Int32.toUInt32_or, -Int32.toUInt32_xor, nb0, nb1, ou_a, Option.toList_some, Option.toList_none, List.nil_append, List.cons_append]
  rcases hsg with rfl | ⟨rfl, e5, e7, e8, y1, y2, y3, y4, y5, y6, y7, ir, iu⟩
  · refine k2a e4 0 _ _ _ ?_
    simp [o27, m37_507u, m37_507i, m37_507r, m37_507g, m37_509, m37_511, m37_514, m37_516, m37_518, m37_521, m37_675, nb0, nb1, ou_a, Option.toList_some, Option.toList_none, List.nil_append, List.cons_append]
    exact tail lp (okS_i _) (okS_i _) (okS_i _) (okS_i _) o28 o29 o30 sh iv' (Or.inr ⟨by decide, rfl⟩) hx1 hx2 hx3
  have gs : GS s A := ⟨hL, by rw [e1]; exact p3, by rw [e1]; omega⟩
  have gl := GC_le (h := h) (t := stT) p5 y2
  have gz : ¬ GC 64 h stT = 0 := fun z => by rw [z, i_0] at gl; omega
  have lc : LC s = h / GC 64 h stT * stT := by unfold LC; rw [e2, e5]
  have lb := lc_bd p5 p6 y2 y3 gl.1 gl.2
  rcases k2 gs (by rw [e4]; decide) (by rw [e1, lt_i, i_8]; omega) (by rw [e2]; exact p5) (by rw [e5]; exact y2) with ⟨f2, hv⟩ | ⟨f2, f, A', ⟨a1, a2, a3, a4, a5⟩, hv⟩ | ⟨f2, A', ⟨a1, a2, a3⟩, hv⟩
  · rw [lc] at f2
    refine hv 0 _ _ _ ?_
    simp [o27, m37_507u, own_k37_22, nb0, nb1, ou_a, Option.toList_some, Option.toList_none, List.nil_append, List.cons_append]
    refine s35 _ _ _ _ ?_
    simp [gz, f2, o28, own_k37_23, m37_559i, m37_561, m37_675, nb0, nb1, ou_a, Option.toList_some, Option.toList_none, List.nil_append, List.cons_append]
    have iv2 : IV capc cnt h t (-1) stC stP stT lm 0 zp zr zu zc (ou (ou s 4 0) 3 (-1)) A := ⟨hL, ⟨e0, e1, e2, rfl, rfl, e9, e10⟩, ⟨p1, p2, p3, p4, p5, p6, p7, p8, p9, p10⟩, Or.inl rfl, pr, ic⟩
    exact tail lp (okS_i _) (okS_i _) (okS_i _) (okS_i _) (okS_i _) o29 o30 sh iv2 (Or.inr ⟨by decide, rfl⟩) hx1 hx2 hx3
  · rw [lc] at f2
    rw [e1] at a3 a4
    have b1 : ¬ f < 0 := by rw [nn_i]; exact a2
    have b2 : ¬ cnt < f := by rw [lt_i]; omega
    refine hv 0 _ _ _ ?_
    simp [o27, m37_507u, own_k37_22, nb0, nb1, ou_a, Option.toList_some, Option.toList_none, List.nil_append, List.cons_append]
    refine s35 _ _ _ _ ?_
    simp [gz, f2, b1, b2, o28, own_k37_23, m37_559i, m37_561, m37_564, m37_566, m37_568, m37_571, m37_572, m37_575i, m37_577, m37_579, m37_582, m37_584, m37_586, m37_589, m37_675, own_k6_0, nb0, nb1, ou_a, Option.toList_some, Option.toList_none, List.nil_append, List.cons_append]
    have iv2 : IV capc cnt h t f stC stP stT lm 0 zp zr zu zc (ou (ou s 4 0) 3 f) A' := ⟨a1, ⟨e0, e1, e2, rfl, rfl, e9, e10⟩, ⟨p1, p2, p3, p4, p5, p6, p7, p8, p9, p10⟩, Or.inl rfl, PR_kp a4 pr, IC_kp p3 (by omega) a4 (a5 8 (Or.inl rfl)) ic⟩
    exact tail lp (okS_i _) (okS_i _) (okS_i _) (okS_i _) (okS_i _) o29 o30 sh iv2 (Or.inr ⟨by decide, rfl⟩) hx1 hx2 hx3
  · have f2' := f2
    rw [lc] at f2
    rw [e1] at a2 a3
    rw [e8] at a3
    have b7 : ¬ cnt = -7 := fun z => by rw [z, i_m7] at p3; omega
    have ec := add1_i (a := cnt) (by omega)
    rw [e1] at hv
    refine hv 0 _ _ _ ?_
    simp [o27, m37_507u, own_k37_22, nb0, nb1, ou_a, Option.toList_some, Option.toList_none, List.nil_append, List.cons_append]
    refine s35 _ _ _ _ ?_
    simp [gz, f2, b7, o28, o29, own_k37_23, own_k37_24, own_k37_25, own_k37_26, -Int64.toInt32_and, -Int64.toInt32_or, -Int64.toInt32_xor, -Int32.toInt64_and, -Int32.toInt64_or, -Int32.toInt64_xor, -Int32.toInt8_and, -Int32.toUInt32_and, -Int32.toUInt32_or, -Int32.toUInt32_xor, nb0, nb1, ou_a, Option.toList_some, Option.toList_none, List.nil_append, List.cons_append]
    refine cq (by decide) (by decide) ?_
    refine cq (by decide) (by decide) ?_
    refine cq (by decide) (by decide) ?_
    refine cq (by decide) (by decide) ?_
    rw [m37_628]
    simp [m37_630, m37_631, m37_675, nb0, nb1, ou_a, Option.toList_some, Option.toList_none, List.nil_append, List.cons_append]
    have iv2 : IV capc (cnt + 1) (h / GC 64 h stT * stT) 0 (-1) stC stP stT 0 0 (zp ||| ((1 : Int64) <<< (stP.toInt64 &&& 63))) zr zu (UPD zr stP (UPD zr stP (UPD zr stP (UPD zr stP zc 0) (0 + 1)) (0 + 1 + 1)) (0 + 1 + 1 + 1)) (ou (ou (ou (ou (ou (ou s 1 (cnt + 1)) 4 0) 2 (LC s)) 3 (-1)) 9 0) 10 0) A' := by
      rw [lt_i, i_840] at f2
      exact ⟨a1, ⟨e0, rfl, lc, rfl, rfl, rfl, rfl⟩, ⟨p1, p2, by omega, by omega, lb, by omega, by decide, by rw [i_0]; omega, by decide, by decide⟩, Or.inl rfl, PR_add p3 (by omega) y6 y7 a2 a3.1 pr, IC_add p3 (by omega) y6 y7 a2 a3 ir ic⟩
    exact tail lp (okS_i _) (okS_i _) (okS_i _) (okS_i _) (okS_i _) (okS_i _) o30 sh iv2 (Or.inr ⟨by decide, rfl⟩) hx1 hx2 hx3
set_option maxRecDepth 1000000 in
set_option maxHeartbeats 20000000 in
theorem op3c {n : Nat} (lp : LP vs Q n) {cr capc cnt h t ft stC stP stT lm sg ix : Int32} {zp zr zu zc : Int64} {k28 k29 k30 k31 k32 : Slot} {s : Nat → Int32} {A : Nat → List Int32} {aa bb cc dd nn : Int32} (o28 : okS k28) (o29 : okS k29) (o30 : okS k30) (sh : SH k31 k32) (iv : IV capc cnt h t ft stC stP stT lm sg zp zr zu zc s A) (hx1 : 1 ≤ ix.toInt) (hx2 : ix.toInt + 5 ≤ 1000) (hx3 : (vs.length : Int) ≤ ix.toInt + 5 + n) (n0 : -8 ≤ nn.toInt) (n1 : nn.toInt ≤ 119) : M37 688 [.val (.ref 0), .val (.int cr), .val (.ref 1), .val (.int capc), .val (.int cnt), .val (.int h), .val (.int t), .val (.int ft), .val (.int stC), .val (.int stP), .val (.int stT), .val (.int lm), .val (.int sg), .val (.long zp), .second, .val (.long zr), .second, .val (.long zu), .second, .val (.long zc), .second, .val (.int ix), .val (.int 3), .val (.int aa), .val (.int bb), .val (.int cc), .val (.int dd), .val (.int nn), k28, k29, k30, k31, k32] [] (put 1 [(.array .int, vs.map Value.int)] s A []) Q := by
  have iv' := iv
  obtain ⟨hL, ⟨e0, e1, e2, e3, e4, e9, e10⟩, ⟨p1, p2, p3, p4, p5, p6, p7, p8, p9, p10⟩, hsg, pr, ic⟩ := iv
  have es : (h - t).toInt = h.toInt - t.toInt := sub_i (by omega) (by omega)
  have gt : GT A s A := ⟨⟨hL, fun _ _ => rfl⟩, by rw [e1]; exact p3, by rw [e1]; omega⟩
  have sgx : ∀ (s' : Nat → Int32) (A' : Nat → List Int32), GT A s' A' → (∀ i, i ≠ 9 → i ≠ 10 → s' i = s i) → (sg = 0 ∨ (sg = 1 ∧ SG s' A' cnt capc stC stP stT zr zu)) := by
    intro s' A' g1 g2
    rcases hsg with z | ⟨z, e5, e7, e8, y1, y2, y3, y4, y5, y6, y7, ir, iu⟩
    · exact Or.inl z
    · exact Or.inr ⟨z, by rw [g2 5 (by decide) (by decide)]; exact e5, by rw [g2 7 (by decide) (by decide)]; exact e7, by rw [g2 8 (by decide) (by decide)]; exact e8, y1, y2, y3, y4, y5, y6, y7, IR_ext (g1.1.2 10 (by decide)) ir, IU_ext (g1.1.2 9 (by decide)) (g1.1.2 10 (by decide)) iu⟩
  by_cases b0 : nn < 0
  · obtain ⟨s', A', k', ⟨g1, g2, g3, g4, g5, g6⟩, hv⟩ := g25 (n := nn) (m := 0) gt (Or.inl ⟨b0, rfl⟩) (by decide) (by rw [e9]; exact p7) (by rw [e9, e2]; exact p8) (by rw [e2]; exact p6) (by rw [e10]; exact p9) (by rw [e10, e9]; exact p10)
    rw [e9, e2] at g3
    rw [e9] at g4
    rw [e10] at g5
    rw [i_0] at g3
    by_cases b1 : 0 < h - t
    · have b1' := b1
      rw [lt_i, i_0, es] at b1'
      have ke : (0 : Int32) = k' := Int32.toInt_inj.mp (by rw [i_0]; omega)
      subst ke
      have et : (t + (0 : Int32)).toInt = t.toInt + ((0 : Int32)).toInt := add_i (by omega) (by omega)
      have e9' : s' 9 = t + (0 : Int32) := Int32.toInt_inj.mp (by rw [et]; omega)
      have iv2 : IV capc cnt h (t + (0 : Int32)) ft stC stP stT (s' 10) sg zp zr zu zc s' A' := ⟨g1.1.1, ⟨by rw [g2 0 (by decide) (by decide)]; exact e0, by rw [g2 1 (by decide) (by decide)]; exact e1, by rw [g2 2 (by decide) (by decide)]; exact e2, by rw [g2 3 (by decide) (by decide)]; exact e3, by rw [g2 4 (by decide) (by decide)]; exact e4, e9', rfl⟩, ⟨p1, p2, p3, p4, p5, p6, by rw [et]; omega, by rw [et]; omega, by omega, by rw [← e9']; omega⟩, sgx s' A' g1 g2, PR_ext (g1.1.2 3 (by decide)) pr, IC_ext (g1.1.2 3 (by decide)) (g1.1.2 5 (by decide)) (g1.1.2 8 (by decide)) ic⟩
      rw [Int32.add_zero] at iv2
      simp [b0, b1, o28, o29, own_k37_29, m37_716, m37_718, m37_720, m37_721u, m37_721i, m37_721r, m37_721g, m37_723, m37_724, m37_726, -Int64.toInt32_and, -Int64.toInt32_or, -Int64.toInt32_xor, -Int32.toInt64_and, -Int32.toInt64_or, -Int32.toInt64_xor, -Int32.toInt8_and, -Int32.toUInt32_and, -Int32.toUInt32_or, -Int32.toUInt32_xor, nb0, nb1, ou_a, Option.toList_some, Option.toList_none, List.nil_append, List.cons_append]
      refine hv 0 _ _ _ ?_
      simp [m37_729, m37_731, m37_734, m37_735, m37_736, m37_738, m37_740, m37_741i, nb0, nb1, ou_a, Option.toList_some, Option.toList_none, List.nil_append, List.cons_append]
      exact tail lp (okS_i _) (okS_i _) (okS_i _) (okS_i _) (okS_i _) (okS_i _) o30 sh iv2 (Or.inl ⟨rfl, by rw [lt_i]; omega⟩) hx1 hx2 hx3
    · have b1' := b1
      rw [lt_i, i_0, es] at b1'
      have ke : (h - t) = k' := Int32.toInt_inj.mp (by rw [es]; omega)
      subst ke
      have et : (t + (h - t)).toInt = t.toInt + ((h - t)).toInt := add_i (by omega) (by omega)
      have e9' : s' 9 = t + (h - t) := Int32.toInt_inj.mp (by rw [et]; omega)
      have iv2 : IV capc cnt h (t + (h - t)) ft stC stP stT (s' 10) sg zp zr zu zc s' A' := ⟨g1.1.1, ⟨by rw [g2 0 (by decide) (by decide)]; exact e0, by rw [g2 1 (by decide) (by decide)]; exact e1, by rw [g2 2 (by decide) (by decide)]; exact e2, by rw [g2 3 (by decide) (by decide)]; exact e3, by rw [g2 4 (by decide) (by decide)]; exact e4, e9', rfl⟩, ⟨p1, p2, p3, p4, p5, p6, by rw [et]; omega, by rw [et]; omega, by omega, by rw [← e9']; omega⟩, sgx s' A' g1 g2, PR_ext (g1.1.2 3 (by decide)) pr, IC_ext (g1.1.2 3 (by decide)) (g1.1.2 5 (by decide)) (g1.1.2 8 (by decide)) ic⟩
      simp [b0, b1, o28, o29, own_k37_29, m37_716, m37_718, m37_720, m37_721u, m37_721i, m37_721r, m37_721g, m37_723, m37_724, m37_726, -Int64.toInt32_and, -Int64.toInt32_or, -Int64.toInt32_xor, -Int32.toInt64_and, -Int32.toInt64_or, -Int32.toInt64_xor, -Int32.toInt8_and, -Int32.toUInt32_and, -Int32.toUInt32_or, -Int32.toUInt32_xor, nb0, nb1, ou_a, Option.toList_some, Option.toList_none, List.nil_append, List.cons_append]
      refine hv 0 _ _ _ ?_
      simp [m37_729, m37_731, m37_734, m37_735, m37_736, m37_738, m37_740, m37_741i, nb0, nb1, ou_a, Option.toList_some, Option.toList_none, List.nil_append, List.cons_append]
      exact tail lp (okS_i _) (okS_i _) (okS_i _) (okS_i _) (okS_i _) (okS_i _) o30 sh iv2 (Or.inl ⟨rfl, by rw [lt_i]; omega⟩) hx1 hx2 hx3
  · have b0' := nn_i.mp b0
    obtain ⟨s', A', k', ⟨g1, g2, g3, g4, g5, g6⟩, hv⟩ := g25 (n := nn) (m := nn) gt (Or.inr ⟨b0, rfl⟩) (by omega) (by rw [e9]; exact p7) (by rw [e9, e2]; exact p8) (by rw [e2]; exact p6) (by rw [e10]; exact p9) (by rw [e10, e9]; exact p10)
    rw [e9, e2] at g3
    rw [e9] at g4
    rw [e10] at g5
    by_cases b1 : nn < h - t
    · have b1' := b1
      rw [lt_i, es] at b1'
      have ke : nn = k' := Int32.toInt_inj.mp (by omega)
      subst ke
      have et : (t + nn).toInt = t.toInt + (nn).toInt := add_i (by omega) (by omega)
      have e9' : s' 9 = t + nn := Int32.toInt_inj.mp (by rw [et]; omega)
      have iv2 : IV capc cnt h (t + nn) ft stC stP stT (s' 10) sg zp zr zu zc s' A' := ⟨g1.1.1, ⟨by rw [g2 0 (by decide) (by decide)]; exact e0, by rw [g2 1 (by decide) (by decide)]; exact e1, by rw [g2 2 (by decide) (by decide)]; exact e2, by rw [g2 3 (by decide) (by decide)]; exact e3, by rw [g2 4 (by decide) (by decide)]; exact e4, e9', rfl⟩, ⟨p1, p2, p3, p4, p5, p6, by rw [et]; omega, by rw [et]; omega, by omega, by rw [← e9']; omega⟩, sgx s' A' g1 g2, PR_ext (g1.1.2 3 (by decide)) pr, IC_ext (g1.1.2 3 (by decide)) (g1.1.2 5 (by decide)) (g1.1.2 8 (by decide)) ic⟩
      simp [b0, b1, o28, o29, own_k37_29, m37_716, m37_718, m37_720, m37_721u, m37_721i, m37_721r, m37_721g, m37_723, m37_724, m37_726, -Int64.toInt32_and, -Int64.toInt32_or, -Int64.toInt32_xor, -Int32.toInt64_and, -Int32.toInt64_or, -Int32.toInt64_xor, -Int32.toInt8_and, -Int32.toUInt32_and, -Int32.toUInt32_or, -Int32.toUInt32_xor, nb0, nb1, ou_a, Option.toList_some, Option.toList_none, List.nil_append, List.cons_append]
      refine hv 0 _ _ _ ?_
      simp [m37_729, m37_731, m37_734, m37_735, m37_736, m37_738, m37_740, m37_741i, nb0, nb1, ou_a, Option.toList_some, Option.toList_none, List.nil_append, List.cons_append]
      exact tail lp (okS_i _) (okS_i _) (okS_i _) (okS_i _) (okS_i _) (okS_i _) o30 sh iv2 (Or.inl ⟨rfl, by rw [lt_i]; omega⟩) hx1 hx2 hx3
    · have b1' := b1
      rw [lt_i, es] at b1'
      have ke : (h - t) = k' := Int32.toInt_inj.mp (by rw [es]; omega)
      subst ke
      have et : (t + (h - t)).toInt = t.toInt + ((h - t)).toInt := add_i (by omega) (by omega)
      have e9' : s' 9 = t + (h - t) := Int32.toInt_inj.mp (by rw [et]; omega)
      have iv2 : IV capc cnt h (t + (h - t)) ft stC stP stT (s' 10) sg zp zr zu zc s' A' := ⟨g1.1.1, ⟨by rw [g2 0 (by decide) (by decide)]; exact e0, by rw [g2 1 (by decide) (by decide)]; exact e1, by rw [g2 2 (by decide) (by decide)]; exact e2, by rw [g2 3 (by decide) (by decide)]; exact e3, by rw [g2 4 (by decide) (by decide)]; exact e4, e9', rfl⟩, ⟨p1, p2, p3, p4, p5, p6, by rw [et]; omega, by rw [et]; omega, by omega, by rw [← e9']; omega⟩, sgx s' A' g1 g2, PR_ext (g1.1.2 3 (by decide)) pr, IC_ext (g1.1.2 3 (by decide)) (g1.1.2 5 (by decide)) (g1.1.2 8 (by decide)) ic⟩
      simp [b0, b1, o28, o29, own_k37_29, m37_716, m37_718, m37_720, m37_721u, m37_721i, m37_721r, m37_721g, m37_723, m37_724, m37_726, -Int64.toInt32_and, -Int64.toInt32_or, -Int64.toInt32_xor, -Int32.toInt64_and, -Int32.toInt64_or, -Int32.toInt64_xor, -Int32.toInt8_and, -Int32.toUInt32_and, -Int32.toUInt32_or, -Int32.toUInt32_xor, nb0, nb1, ou_a, Option.toList_some, Option.toList_none, List.nil_append, List.cons_append]
      refine hv 0 _ _ _ ?_
      simp [m37_729, m37_731, m37_734, m37_735, m37_736, m37_738, m37_740, m37_741i, nb0, nb1, ou_a, Option.toList_some, Option.toList_none, List.nil_append, List.cons_append]
      exact tail lp (okS_i _) (okS_i _) (okS_i _) (okS_i _) (okS_i _) (okS_i _) o30 sh iv2 (Or.inl ⟨rfl, by rw [lt_i]; omega⟩) hx1 hx2 hx3
set_option maxRecDepth 1000000 in
set_option maxHeartbeats 20000000 in
theorem op3 {n : Nat} (lp : LP vs Q n) {cr capc cnt h t ft stC stP stT lm sg ix : Int32} {zp zr zu zc : Int64} {k22 k23 k24 k25 k26 k27 k28 k29 k30 k31 k32 : Slot} {s : Nat → Int32} {A : Nat → List Int32} (o22 : okS k22) (o23 : okS k23) (o24 : okS k24) (o25 : okS k25) (o26 : okS k26) (o27 : okS k27) (o28 : okS k28) (o29 : okS k29) (o30 : okS k30) (sh : SH k31 k32) (iv : IV capc cnt h t ft stC stP stT lm sg zp zr zu zc s A) (hx1 : 1 ≤ ix.toInt) (hx2 : ix.toInt + 5 ≤ 1000) (hx3 : (vs.length : Int) ≤ ix.toInt + 5 + n) (x0 : inB ix vs) (x1 : inB (ix + 1) vs) (x2 : inB (ix + 2) vs) (x3 : inB (ix + 3) vs) (x4 : inB (ix + 4) vs) (ha : getA vs ix &&& 3 = 3) : M37 95 [.val (.ref 0), .val (.int cr), .val (.ref 1), .val (.int capc), .val (.int cnt), .val (.int h), .val (.int t), .val (.int ft), .val (.int stC), .val (.int stP), .val (.int stT), .val (.int lm), .val (.int sg), .val (.long zp), .second, .val (.long zr), .second, .val (.long zu), .second, .val (.long zc), .second, .val (.int ix), k22, k23, k24, k25, k26, k27, k28, k29, k30, k31, k32] [] (put 1 [(.array .int, vs.map Value.int)] s A []) Q := by
  have q := m_bd (getA vs (ix + 1)) 127 127 (by decide) rfl
  have e : ((getA vs (ix + 1) &&& 127) - 8).toInt = (getA vs (ix + 1) &&& 127).toInt - 8 := (sub_i (by rw [i_8]; omega) (by rw [i_8]; omega)).trans (by rw [i_8])
  simp [x0, x1, x2, x3, x4, ha, okS_i, o22, o23, o24, o25, o26, o27, o28, o29, o30, m37_95, m37_96, m37_98, m37_98p, m37_99, m37_100, m37_101u, m37_101i, m37_101r, m37_101g, own_k37_5, own_k37_6, m37_130, m37_131, m37_132, m37_132p, m37_133u, m37_133i, m37_133r, m37_133g, m37_135, m37_137, m37_326, m37_328, m37_329, m37_497, m37_499, m37_500, m37_678, m37_680, m37_682, m37_683, m37_685, m37_686u, m37_686i, m37_686r, m37_686g, -Int64.toInt32_and, -Int64.toInt32_or, -Int64.toInt32_xor, -Int32.toInt64_and, -Int32.toInt64_or, -Int32.toInt64_xor, -Int32.toInt8_and, -Int32.toUInt32_and, -Int32.toUInt32_or, -Int32.toUInt32_xor, nb0, nb1, ou_a, Option.toList_some, Option.toList_none, List.nil_append, List.cons_append]
  exact op3c lp o28 o29 o30 sh iv hx1 hx2 hx3 (by rw [e]; omega) (by rw [e]; omega)
set_option maxRecDepth 1000000 in
set_option maxHeartbeats 20000000 in
theorem loop (hlen : vs.length ≤ 260) (hQ : ∀ s' A', LN A' → Q (some (.int 1)) (put 1 [(.array .int, vs.map Value.int)] s' A' [])) : ∀ n, LP vs Q n := by
  intro n
  induction n with
  | zero =>
    intro cr capc cnt h t ft stC stP stT lm sg zp zr zu zc ix k22 k23 k24 k25 k26 k27 k28 k29 k30 k31 k32 s A o22 o23 o24 o25 o26 o27 o28 o29 o30 sh iv hx1 hx0 hx3
    have eL : (vs.length.toInt32).toInt = vs.length := len_toInt (by omega)
    have e4 : (ix + 4).toInt = ix.toInt + 4 := add_i (by rw [i_4]; omega) (by rw [i_4]; omega)
    have g : ¬ ix + 4 < vs.length.toInt32 := by rw [lt_i, eL, e4]; omega
    rw [m37_86]
    simp [g, m37_88, m37_89, m37_90, m37_91, m37_91p, m37_92, m37_886, m37_887, nb0, nb1, ou_a, Option.toList_some, Option.toList_none, List.nil_append, List.cons_append]
    exact hQ s A iv.1
  | succ n ih =>
    intro cr capc cnt h t ft stC stP stT lm sg zp zr zu zc ix k22 k23 k24 k25 k26 k27 k28 k29 k30 k31 k32 s A o22 o23 o24 o25 o26 o27 o28 o29 o30 sh iv hx1 hx0 hx3
    have eL : (vs.length.toInt32).toInt = vs.length := len_toInt (by omega)
    have e1 := add1_i (a := ix) (by omega)
    have e2 : (ix + 2).toInt = ix.toInt + 2 := add_i (by rw [i_2]; omega) (by rw [i_2]; omega)
    have e3 : (ix + 3).toInt = ix.toInt + 3 := add_i (by show _ ≤ ix.toInt + 3; omega) (by show ix.toInt + 3 < _; omega)
    have e4 : (ix + 4).toInt = ix.toInt + 4 := add_i (by rw [i_4]; omega) (by rw [i_4]; omega)
    by_cases g : ix + 4 < vs.length.toInt32
    · have q := g
      rw [lt_i, eL, e4] at q
      have x0 : inB ix vs := by rw [inB_iff]; omega
      have x1 : inB (ix + 1) vs := by rw [inB_iff, e1]; omega
      have x2 : inB (ix + 2) vs := by rw [inB_iff, e2]; omega
      have x3 : inB (ix + 3) vs := by rw [inB_iff, e3]; omega
      have x4 : inB (ix + 4) vs := by rw [inB_iff, e4]; omega
      rw [m37_86]
      simp [g, m37_88, m37_89, m37_90, m37_91, m37_91p, m37_92, nb0, nb1, ou_a, Option.toList_some, Option.toList_none, List.nil_append, List.cons_append]
      have hx2 : ix.toInt + 5 ≤ 1000 := by omega
      have hx4 : (vs.length : Int) ≤ ix.toInt + 5 + n := by omega
      rcases and3 (getA vs ix) with ha | ha | ha | ha
      · exact op0 ih o22 o23 o24 o25 o26 o27 o28 o29 o30 sh iv hx1 hx2 hx4 x0 x1 x2 x3 x4 ha
      · exact op1 ih o22 o23 o24 o25 o26 o27 o28 o29 o30 sh iv hx1 hx2 hx4 x0 x1 x2 x3 x4 ha
      · exact op2 ih o22 o23 o24 o25 o26 o27 o28 o29 o30 sh iv hx1 hx2 hx4 x0 x1 x2 x3 x4 ha
      · exact op3 ih o22 o23 o24 o25 o26 o27 o28 o29 o30 sh iv hx1 hx2 hx4 x0 x1 x2 x3 x4 ha
    · rw [m37_86]
      simp [g, m37_88, m37_89, m37_90, m37_91, m37_91p, m37_92, m37_886, m37_887, nb0, nb1, ou_a, Option.toList_some, Option.toList_none, List.nil_append, List.cons_append]
      exact hQ s A iv.1
end Law
set_option maxRecDepth 1000000 in
set_option maxHeartbeats 20000000 in
theorem g0a {c : Int32} (b1 : c < 1) : ∃ (s' : Nat → Int32) (A' : Nat → List Int32), ((s' 0 = 1 ∧ s' 1 = 0 ∧ s' 2 = 1 ∧ s' 3 = -1 ∧ s' 4 = 0 ∧ s' 9 = 0 ∧ s' 10 = 0) ∧ LN A' ∧ (getA (A' 8) 0 = 0 ∧ getA (A' 8) 1 = 0 ∧ getA (A' 8) 2 = 0 ∧ getA (A' 8) 3 = 0)) ∧ ∀ (b : Nat) (pre post : AHeap) (Q : Option Value → AHeap → Prop), Q none (put (b + 1) pre s' A' post) → M0 160 [.val (.ref (b + 1)), .val (.int c), .unset, .unset] [] (put (b + 1) pre (fun _ => 0) A0 post) Q := by
  apply Exists.intro
  apply Exists.intro
  refine ⟨?_, fun b pre post Q hq => ?_⟩
  rotate_left 1
  · simp [b1, own_k0_0, own_k0_1, own_k0_2, own_k0_3, own_k0_4, m0_205, own_k0_5, own_k1_0, m1_12, own_k1_1, own_k1_2, own_k1_3, nb0, nb1, ou_a, Option.toList_some, Option.toList_none, List.nil_append, List.cons_append, getA_set2, setA_len, inB_iff, A0g_0, A0g_1, A0g_2, A0g_3, A0g_4, A0g_5, A0g_6, A0g_7, A0g_8, A0g_9, A0g_10, A0g_11, A0g_12, A0g_13, A0g_14, A0g_15, A0g_16, A0g_17, A0g_18, A0g_19, A0l_0, A0l_1, A0l_2, A0l_3, A0l_4, A0l_5, A0l_6, A0l_7, A0l_8, A0l_9, A0l_10, A0l_11, A0l_12, A0l_13, A0l_14, A0l_15, A0l_16, A0l_17, A0l_18, A0l_19]
    exact hq
  · refine ⟨?_, (by (repeat refine len_ou ?_ (by simp only [setA_len])); exact fun _ => rfl), ?_⟩
    · simp [ou_a]
    · simp [ou_a, getA_set2, setA_len, A0l_8, A0g_8]
set_option maxRecDepth 1000000 in
set_option maxHeartbeats 20000000 in
theorem g0b {c : Int32} (b1 : ¬ c < 1) (b2 : 8 < c) : ∃ (s' : Nat → Int32) (A' : Nat → List Int32), ((s' 0 = 8 ∧ s' 1 = 0 ∧ s' 2 = 1 ∧ s' 3 = -1 ∧ s' 4 = 0 ∧ s' 9 = 0 ∧ s' 10 = 0) ∧ LN A' ∧ (getA (A' 8) 0 = 0 ∧ getA (A' 8) 1 = 0 ∧ getA (A' 8) 2 = 0 ∧ getA (A' 8) 3 = 0)) ∧ ∀ (b : Nat) (pre post : AHeap) (Q : Option Value → AHeap → Prop), Q none (put (b + 1) pre s' A' post) → M0 160 [.val (.ref (b + 1)), .val (.int c), .unset, .unset] [] (put (b + 1) pre (fun _ => 0) A0 post) Q := by
  apply Exists.intro
  apply Exists.intro
  refine ⟨?_, fun b pre post Q hq => ?_⟩
  rotate_left 1
  · simp [b1, b2, own_k0_0, own_k0_1, own_k0_2, own_k0_3, own_k0_4, m0_205, own_k0_5, own_k1_0, m1_12, own_k1_1, own_k1_2, own_k1_3, nb0, nb1, ou_a, Option.toList_some, Option.toList_none, List.nil_append, List.cons_append, getA_set2, setA_len, inB_iff, A0g_0, A0g_1, A0g_2, A0g_3, A0g_4, A0g_5, A0g_6, A0g_7, A0g_8, A0g_9, A0g_10, A0g_11, A0g_12, A0g_13, A0g_14, A0g_15, A0g_16, A0g_17, A0g_18, A0g_19, A0l_0, A0l_1, A0l_2, A0l_3, A0l_4, A0l_5, A0l_6, A0l_7, A0l_8, A0l_9, A0l_10, A0l_11, A0l_12, A0l_13, A0l_14, A0l_15, A0l_16, A0l_17, A0l_18, A0l_19]
    exact hq
  · refine ⟨?_, (by (repeat refine len_ou ?_ (by simp only [setA_len])); exact fun _ => rfl), ?_⟩
    · simp [ou_a]
    · simp [ou_a, getA_set2, setA_len, A0l_8, A0g_8]
set_option maxRecDepth 1000000 in
set_option maxHeartbeats 20000000 in
theorem g0c {c : Int32} (b1 : ¬ c < 1) (b2 : ¬ 8 < c) : ∃ (s' : Nat → Int32) (A' : Nat → List Int32), ((s' 0 = c ∧ s' 1 = 0 ∧ s' 2 = 1 ∧ s' 3 = -1 ∧ s' 4 = 0 ∧ s' 9 = 0 ∧ s' 10 = 0) ∧ LN A' ∧ (getA (A' 8) 0 = 0 ∧ getA (A' 8) 1 = 0 ∧ getA (A' 8) 2 = 0 ∧ getA (A' 8) 3 = 0)) ∧ ∀ (b : Nat) (pre post : AHeap) (Q : Option Value → AHeap → Prop), Q none (put (b + 1) pre s' A' post) → M0 160 [.val (.ref (b + 1)), .val (.int c), .unset, .unset] [] (put (b + 1) pre (fun _ => 0) A0 post) Q := by
  apply Exists.intro
  apply Exists.intro
  refine ⟨?_, fun b pre post Q hq => ?_⟩
  rotate_left 1
  · simp [b1, b2, own_k0_0, own_k0_1, own_k0_2, own_k0_3, own_k0_4, m0_205, own_k0_5, own_k1_0, m1_12, own_k1_1, own_k1_2, own_k1_3, nb0, nb1, ou_a, Option.toList_some, Option.toList_none, List.nil_append, List.cons_append, getA_set2, setA_len, inB_iff, A0g_0, A0g_1, A0g_2, A0g_3, A0g_4, A0g_5, A0g_6, A0g_7, A0g_8, A0g_9, A0g_10, A0g_11, A0g_12, A0g_13, A0g_14, A0g_15, A0g_16, A0g_17, A0g_18, A0g_19, A0l_0, A0l_1, A0l_2, A0l_3, A0l_4, A0l_5, A0l_6, A0l_7, A0l_8, A0l_9, A0l_10, A0l_11, A0l_12, A0l_13, A0l_14, A0l_15, A0l_16, A0l_17, A0l_18, A0l_19]
    exact hq
  · refine ⟨?_, (by (repeat refine len_ou ?_ (by simp only [setA_len])); exact fun _ => rfl), ?_⟩
    · simp [ou_a]
    · simp [ou_a, getA_set2, setA_len, A0l_8, A0g_8]
theorem ur_0 : ∀ p : Fin 64, XT.ushrL 0 (Int32.ofNat p.val) &&& 1 = 0 := by decide +kernel
theorem PR_0 (A : Nat → List Int32) : PR 0 0 A := by
  intro p p0 p1
  obtain ⟨k, hk, e⟩ := rng (x := p) (n := 64) (by omega) (by omega)
  rw [e]
  exact ⟨fun _ i i0 i1 => absurd i1 (by rw [i_0]; omega), fun _ => ur_0 ⟨k, hk⟩⟩
theorem IC_0 {A : Nat → List Int32} (h : getA (A 8) 0 = 0 ∧ getA (A 8) 1 = 0 ∧ getA (A 8) 2 = 0 ∧ getA (A 8) 3 = 0) : IC 0 0 A := by
  intro q q0 q1
  rcases r4 q0 q1 with rfl | rfl | rfl | rfl
  · rw [h.1]; exact ⟨by decide, rfl⟩
  · rw [h.2.1]; exact ⟨by decide, rfl⟩
  · rw [h.2.2.1]; exact ⟨by decide, rfl⟩
  · rw [h.2.2.2]; exact ⟨by decide, rfl⟩
set_option maxRecDepth 1000000 in
set_option maxHeartbeats 20000000 in
theorem own_key {vs : List Int32} {Q : Option Value → AHeap → Prop} (hlen : vs.length ≤ 260) (hQ : ∀ s' A', LN A' → Q (some (.int 1)) (put 1 [((FieldType.array .int, vs.map Value.int) : FieldType × List Value)] s' A' [])) (c : Int32) : M37 13 [.val (.ref 0), .val (.int c), .unset, .unset, .unset, .unset, .unset, .unset, .unset, .unset, .unset, .unset, .unset, .unset, .unset, .unset, .unset, .unset, .unset, .unset, .unset, .unset, .unset, .unset, .unset, .unset, .unset, .unset, .unset, .unset, .unset, .unset, .unset] [] [((FieldType.array .int, vs.map Value.int) : FieldType × List Value)] Q := by
  by_cases b1 : c < 1
  · obtain ⟨s, A, ⟨⟨e0, e1, e2, e3, e4, e9, e10⟩, hL, h8⟩, hv⟩ := g0a b1
    simp [m37_13, m37_16, m37_17, m37_18, nb0, nb1, ou_a, Option.toList_some, Option.toList_none, List.nil_append, List.cons_append]
    refine Eq.mpr (own_ctor0 (pre := [((FieldType.array .int, vs.map Value.int) : FieldType × List Value)]) (b := 1) rfl (Nat.le_refl 1)) ?_
    refine hv 0 _ _ _ ?_
    simp [b1, m37_21u, own_k37_1, own_k37_2, own_k37_3, nb0, nb1, ou_a, Option.toList_some, Option.toList_none, List.nil_append, List.cons_append]
    exact loop hlen hQ 260 c 1 0 1 0 (-1) 0 0 1 0 0 0 0 0 0 1 _ _ _ _ _ _ _ _ _ _ _ s A okS_u okS_u okS_u okS_u okS_u okS_u okS_u okS_u okS_u (Or.inl ⟨rfl, rfl⟩) ⟨hL, ⟨e0, e1, e2, e3, e4, e9, e10⟩, ⟨by decide, by decide, by decide, by decide, by decide, by decide, by decide, by decide, by decide, by decide⟩, Or.inl rfl, PR_0 A, IC_0 h8⟩ (by decide) (by decide) (by rw [i_1]; omega)
  by_cases b2 : 8 < c
  · obtain ⟨s, A, ⟨⟨e0, e1, e2, e3, e4, e9, e10⟩, hL, h8⟩, hv⟩ := g0b b1 b2
    simp [m37_13, m37_16, m37_17, m37_18, nb0, nb1, ou_a, Option.toList_some, Option.toList_none, List.nil_append, List.cons_append]
    refine Eq.mpr (own_ctor0 (pre := [((FieldType.array .int, vs.map Value.int) : FieldType × List Value)]) (b := 1) rfl (Nat.le_refl 1)) ?_
    refine hv 0 _ _ _ ?_
    simp [b1, b2, m37_21u, own_k37_1, own_k37_2, own_k37_3, nb0, nb1, ou_a, Option.toList_some, Option.toList_none, List.nil_append, List.cons_append]
    exact loop hlen hQ 260 c 8 0 1 0 (-1) 0 0 1 0 0 0 0 0 0 1 _ _ _ _ _ _ _ _ _ _ _ s A okS_u okS_u okS_u okS_u okS_u okS_u okS_u okS_u okS_u (Or.inl ⟨rfl, rfl⟩) ⟨hL, ⟨e0, e1, e2, e3, e4, e9, e10⟩, ⟨by decide, by decide, by decide, by decide, by decide, by decide, by decide, by decide, by decide, by decide⟩, Or.inl rfl, PR_0 A, IC_0 h8⟩ (by decide) (by decide) (by rw [i_1]; omega)
  · have q1 := b1
    have q2 := b2
    rw [lt_i, i_1] at q1
    rw [lt_i, i_8] at q2
    obtain ⟨s, A, ⟨⟨e0, e1, e2, e3, e4, e9, e10⟩, hL, h8⟩, hv⟩ := g0c b1 b2
    simp [m37_13, m37_16, m37_17, m37_18, nb0, nb1, ou_a, Option.toList_some, Option.toList_none, List.nil_append, List.cons_append]
    refine Eq.mpr (own_ctor0 (pre := [((FieldType.array .int, vs.map Value.int) : FieldType × List Value)]) (b := 1) rfl (Nat.le_refl 1)) ?_
    refine hv 0 _ _ _ ?_
    simp [b1, b2, m37_21u, own_k37_1, own_k37_2, own_k37_3, nb0, nb1, ou_a, Option.toList_some, Option.toList_none, List.nil_append, List.cons_append]
    exact loop hlen hQ 260 c c 0 1 0 (-1) 0 0 1 0 0 0 0 0 0 1 _ _ _ _ _ _ _ _ _ _ _ s A okS_u okS_u okS_u okS_u okS_u okS_u okS_u okS_u okS_u (Or.inl ⟨rfl, rfl⟩) ⟨hL, ⟨e0, e1, e2, e3, e4, e9, e10⟩, ⟨by omega, by omega, by decide, by rw [i_0]; omega, by decide, by decide, by decide, by decide, by decide, by decide⟩, Or.inl rfl, PR_0 A, IC_0 h8⟩ (by decide) (by decide) (by rw [i_1]; omega)
set_option maxRecDepth 1000000 in
set_option maxHeartbeats 20000000 in
theorem own_k {vs : List Int32} {Q : Option Value → AHeap → Prop} (hlen : vs.length ≤ 260) (hQ : ∀ s' A', LN A' → Q (some (.int 1)) (put 1 [((FieldType.array .int, vs.map Value.int) : FieldType × List Value)] s' A' [])) : M37 0 [.val (.ref 0), .unset, .unset, .unset, .unset, .unset, .unset, .unset, .unset, .unset, .unset, .unset, .unset, .unset, .unset, .unset, .unset, .unset, .unset, .unset, .unset, .unset, .unset, .unset, .unset, .unset, .unset, .unset, .unset, .unset, .unset, .unset, .unset] [] [((FieldType.array .int, vs.map Value.int) : FieldType × List Value)] Q := by
  by_cases z : 0 < vs.length.toInt32
  · have eL : (vs.length.toInt32).toInt = vs.length := len_toInt (by omega)
    have x0 : inB 0 vs := by
      rw [inB_iff, i_0]
      rw [lt_i, i_0, eL] at z
      omega
    simp [z, x0, m37_0, m37_1, m37_1p, m37_2, m37_5, m37_6, m37_7, m37_7p, m37_8, m37_11, m37_12u, nb0, nb1, ou_a, Option.toList_some, Option.toList_none, List.nil_append, List.cons_append]
    exact own_key hlen hQ _
  · simp [z, m37_0, m37_1, m37_1p, m37_2, m37_5, m37_6, m37_7, m37_7p, m37_8, m37_11, m37_12u, nb0, nb1, ou_a, Option.toList_some, Option.toList_none, List.nil_append, List.cons_append]
    exact own_key hlen hQ _
set_option maxRecDepth 1000000 in
set_option maxHeartbeats 20000000 in
theorem own_law (vs : List Int32) (hlen : vs.length ≤ 260) : W tables_1 dn 1 x code ret 0 (entry [.ref 0] maxLocals) [] [(FieldType.array .int, vs.map Value.int)] (fun v H1 => v = some (.int 1) ∧ H1.length - ([(FieldType.array .int, vs.map Value.int)] : AHeap).length ≤ 56 ∧ tot tables_1 H1 - tot tables_1 [(FieldType.array .int, vs.map Value.int)] ≤ 576) := by
  show M37 0 [.val (.ref 0), .unset, .unset, .unset, .unset, .unset, .unset, .unset, .unset, .unset, .unset, .unset, .unset, .unset, .unset, .unset, .unset, .unset, .unset, .unset, .unset, .unset, .unset, .unset, .unset, .unset, .unset, .unset, .unset, .unset, .unset, .unset, .unset] [] [(FieldType.array .int, vs.map Value.int)] _
  refine own_k hlen (fun s' A' h' => ⟨rfl, ?_, ?_⟩)
  · rw [put_len]; simp
  · have hq : ∀ i, (A' i).length = (A0 i).length := h'
    rw [put_tot, pad_1]; simp only [hq, put_len, put_tot, pad_0, tot_nil, List.length_nil, List.length_cons, A0l_0, A0l_1, A0l_2, A0l_3, A0l_4, A0l_5, A0l_6, A0l_7, A0l_8, A0l_9, A0l_10, A0l_11, A0l_12, A0l_13, A0l_14, A0l_15, A0l_16, A0l_17, A0l_18, A0l_19]; omega
theorem own_dn : ∀ f' l', dnOf dn x = some (f', l') → f' ≤ room_1.frames ∧ l' ≤ room_1.locals := by
  have h : dnOf dn x = some (4, 70) := by decide +kernel
  intro f' l' q; rw [h] at q; cases q; decide
theorem own_pn : Jvm.plainName x.cls = true := by first | (simp [Jvm.plainName, overriddenIn, x]; done) | decide +kernel
theorem own_rm (l : Launch) (Z : State) (a0 : Array Value) (hw : ∀ d ∈ tables_1, d.before a0 Z = true) (vs : List Int32) (hlen : vs.length ≤ 260) (h : Heap) (a : Addr) (cl : Cell) (Ar : Arr Z h a cl .int) (ev : cl.slots = (vs.map Value.int).toArray) :
    MetFree l x (head1 (Jvm.Cond.code x code maxLocals ret :: tables_1) room_1) (fun A U => A = #[.ref a] ∧ Z.Warmed39 U.vm ∧ U.heap = h) (fun _ _ _ _ _ => True) (fun _ U o U' => ∃ w L, o = .returned w ∧ (w = some (.int 1) ∧ Fr h.size L) ∧ FrameEnd U o U' L 56 576) :=
  law_of (as := [.ref 0]) (mx := maxLocals) (f := room_1.frames) (lc := room_1.locals) hw l tables_1 own_pn (by show 1 ≤ 33; omega) (own_law vs hlen) own_dn (Sim.script tables_1 Ar ev)
set_option maxRecDepth 65536 in
set_option maxHeartbeats 40000000 in
theorem comes_1 {Post : Tables → Env → Array Value → State → Outcome → State → Prop} (hpost : ∀ tb e args s v u, (limb_1_1.after args s (.returned v) u = true ∧ limb_1_2.after args s (.returned v) u = true ∧ True) → FrameEnd s (.returned v) u (Jvm.fieldLocs frame_1_writes args s ++ Jvm.arrayLocs frame_1_arrays args s ++ Jvm.staticLocs frame_1_statics s) 56 576 → Post tb e args s (.returned v) u) :
    ArmFor flags0 classFile x code maxLocals ret World_1 tables_1 room_1 Calls_1 rest_1 Pre_1 Post := by
  intro l hfl _ _ p e ha hc hk s m args below hf hA hF happ hP
  obtain ⟨hcalls, hrest, hpre⟩ := hP
  obtain ⟨-, -, -, hnamed, -, -, -, hat⟩ := (Spec.applies_iff hf).mp happ
  obtain ⟨hg, hn⟩ := and_e (Cond.before_iff.mp (show (Jvm.Cond.and given_1 narrow_1).before args s = true from hpre))
  obtain ⟨g0, q0⟩ := and_e hg
  obtain ⟨w0, rfl⟩ : ∃ w0 : Value, args = #[w0] := by
    have hs : args.size = 1 := by simpa [Cond.value, given_1] using g0
    obtain ⟨L⟩ := args
    match L, hs with
    | [w0], _ => exact ⟨w0, rfl⟩
  have hw := fun d (hd : d ∈ tables_1) => atoms_spec (ws := Jvm.Cond.code x code maxLocals ret :: tables_1) hat d (List.mem_cons_of_mem _ hd)
  have hfit : Fit s := fun {y c} hc i hi => by
    obtain ⟨ha, rfl⟩ := Array.getElem?_eq_some_iff.mp hc
    have q := List.all_eq_true.mp ((Array.all_eq_true_iff_forall_mem.mp hF) _ (Array.getElem_mem ha)) i (List.mem_range.mpr hi)
    simpa [Array.getElem?_eq_getElem hi] using q
  obtain ⟨n1, n2⟩ := and_e hn
  obtain ⟨a, ea⟩ := arr_v n1
  obtain rfl : w0 = .ref a := Option.some.inj ea
  obtain ⟨cl, Ar⟩ := Arr.start ea n1
  obtain ⟨r1, -⟩ := and_e (Cond.before_iff.mp (show rest_1_c.before _ s = true from hrest))
  obtain ⟨z, ez⟩ := is_v r1
  have hat' := Ar.fin (Vm.Alike.refl _)
  have hsz : cl.slots.size < 2 ^ 31 ∧ z = cl.slots.size.toInt32 := by
    simp only [Term.eval] at ea ez
    simp only [ea, hat', Option.bind_eq_bind, Option.bind_some] at ez
    split at ez
    · rename_i hlt; exact ⟨hlt, by simpa using ez.symm⟩
    · cases ez
  obtain ⟨vs, ev⟩ := script_of hfit Ar hsz.1
  have hlen : vs.length ≤ 260 := by
    have e1 : cl.slots.size = vs.length := by rw [ev]; simp
    have e2 := len_toInt hsz.1
    have n3 := Cond.le_ints (a := .length (.arg 0)) (b := .int 260) ez (Term.int_eval _)
    rw [n2] at n3
    have n4 := of_decide_eq_true (Option.some.inj n3).symm
    rw [Int32.le_iff_toInt_le, hsz.2, e2] at n4
    have e3 : (260 : Int32).toInt = 260 := by decide
    rw [e3] at n4
    omega
  obtain ⟨n, o, h1, h2, h3, _, L, rfl, ⟨rfl, N⟩, hq⟩ := own_rm l s _ hw vs hlen s.heap a cl Ar ev p e ha hc hk s m _ below hf ((Spec.applies_iff_loose hf).mp happ).1 ⟨rfl, State.Warmed39.refl s, rfl⟩ trivial
  exact ⟨n, _, h1, h2, h3, hpost _ _ _ _ _ _ ⟨Cond.after_iff.mpr rfl, Cond.after_iff.mpr (eq_i res_at (Term.int_eval (1)) rfl), trivial⟩ ⟨hq.1, hq.2.1, (hq.2.2.sift fun y hy => Or.inr (N y hy)).mono (by decide) (by decide)⟩⟩
theorem main_1_1 : Claimed_1_1 := comes_1 fun _ _ _ _ _ _ h hF => ⟨h.1, hF⟩
theorem main_1_2 : Claimed_1_2 := comes_1 fun _ _ _ _ _ _ h hF => ⟨h.2.1, hF⟩
end Jvm.Pilot.@@N@@
namespace Jvm.Pilot.@@N@@
open Jvm Jvm.ClassFile Sem Op Lib Jvm.Free Jvm.Stand Jvm.Pilot.@@N@@.Jvm.D
/-! MADE BY PROGRAM (witnessworld.py) out of the Statement's table words and the real class files: 11 classes; the members and pool entries that the words name. The judged class is class 1, her method 1. -/
namespace start1
open Jvm.ClassFile
def u (s : String) : CpInfo := .utf8 (stringToUtf16 s)
/-- a pool by its gaps: so many unusable entries, then the entry; so many at the end -/
def gap : Nat → List CpInfo → List CpInfo
  | 0, r => r
  | n + 1, r => .unusable :: gap n r
def poolList (es : List (Nat × CpInfo)) (last : Nat) : List CpInfo := es.foldr (fun e r => gap e.1 (e.2 :: r)) (gap last [])
def pool (es : List (Nat × CpInfo)) (last : Nat) : Array CpInfo := ⟨poolList es last⟩
def fileOf (pool : Array CpInfo) (this : Nat) (attrs : Array Attribute := #[]) (ms : Array MethodInfo := #[]) (fl : Nat := 33) (sup : Nat := 0) (ifs : Array Nat := #[]) (fds : Array FieldInfo := #[]) : ClassFile where
  minorVersion := 0
  majorVersion := 65
  constantPool := pool
  accessFlags := fl
  thisClass := this
  superClass := sup
  interfaces := ifs
  fields := fds
  methods := ms
  attributes := attrs
def plain (name : String) (sup : Option ClassId) : Class where
  name := name
  kind := .ordinary
  loader := none
  accessFlags := 33
  super := sup
  interfaces := #[]
  cf := none
  fields := #[]
  methods := #[]
  instanceTypes := #[]
  staticTypes := #[]
  resolved := #[]
  callSites := []
  init := .initialized
  statics := none
  mirror := none

def pool0 : Array CpInfo := pool [(5, u "<init>"), (0, u "()V"), (1, .class_ 10), (1, u "java/lang/Object")] 113

def k0c0 : Code := { maxStack := 0, maxLocals := 1, code := object_method_1_code, exceptionTable := #[], attributes := #[] }
def k0m0 : Method := { name := "<init>", desc := "()V", sig := { parameters := [], returnType := none }, accessFlags := 1, code := some k0c0 }
/-- java/lang/Object -/
def k0 : Class := { plain "java/lang/Object" none with
  accessFlags := 33
  interfaces := #[]
  cf := some (fileOf pool0 8 #[] #[{ accessFlags := 1, nameIndex := 5, descriptorIndex := 6, attributes := #[] }] 33 0 #[] #[])
  fields := #[]
  methods := #[k0m0]
  instanceTypes := #[]
  staticTypes := #[]
  resolved := Array.replicate 124 none
  statics := none }

def pool1 : Array CpInfo := pool [(2, .class_ 4), (1, u "java/lang/Object"), (0, u "<init>"), (0, u "()V"), (0, .class_ 8), (0, u "ResponseTimeGate"), (0, .methodref 7 10), (0, .nameAndType 5 11), (0, u "(I)V"), (0, .methodref 7 13), (0, .nameAndType 14 15), (0, u "beginTask"), (0, u "(IIII)I"), (0, .methodref 7 17), (0, .nameAndType 18 19), (0, u "addSection"), (0, u "(III)I"), (0, .methodref 7 21), (0, .nameAndType 22 23), (0, u "commitTask"), (0, u "()I"), (0, .methodref 25 26), (0, .class_ 27), (0, .nameAndType 28 29), (0, u "ResponseTimeGateL6"), (0, u "gcd"), (0, u "(II)I"), (0, .methodref 7 31), (0, .nameAndType 32 23), (0, u "failedTask"), (0, .methodref 25 34), (0, .nameAndType 35 36), (0, u "getC"), (0, u "(JI)I"), (0, .methodref 25 38), (0, .nameAndType 39 40), (0, u "setC"), (0, u "(JII)J"), (0, .methodref 7 42), (0, .nameAndType 43 44), (0, u "run"), (0, u "(I)I"), (0, .methodref 7 46), (0, .nameAndType 47 23), (0, u "misses"), (0, .methodref 7 49), (0, .nameAndType 50 23), (0, u "taskCount"), (0, .methodref 7 52), (0, .nameAndType 53 23), (0, u "hyperperiod"), (0, .methodref 7 55), (0, .nameAndType 56 23), (0, u "time"), (0, .methodref 7 58), (0, .nameAndType 59 44), (0, u "bound"), (0, .methodref 7 61), (0, .nameAndType 62 44), (0, u "jobsDone"), (0, .methodref 7 64), (0, .nameAndType 65 44), (0, u "ceiling"), (0, .long 255), (1, .long 18446744073709551615), (3, u "law"), (0, u "([I)Z")] 5

def k1m0 : Method := { name := "<init>", desc := "()V", sig := { parameters := [], returnType := none }, accessFlags := 1, code := none }
def k1c1 : Code := { maxStack := 5, maxLocals := 33, code := code, exceptionTable := #[], attributes := #[] }
def k1m1 : Method := { name := "law", desc := "([I)Z", sig := { parameters := [(.array .int)], returnType := some .boolean }, accessFlags := 9, code := some k1c1 }
def k1c2 : Code := { maxStack := 2, maxLocals := 4, code := method_3_code, exceptionTable := #[], attributes := #[] }
def k1m2 : Method := { name := "gcd", desc := "(II)I", sig := { parameters := [.int, .int], returnType := some .int }, accessFlags := 10, code := some k1c2 }
def k1c3 : Code := { maxStack := 4, maxLocals := 3, code := method_4_code, exceptionTable := #[], attributes := #[] }
def k1m3 : Method := { name := "getC", desc := "(JI)I", sig := { parameters := [.long, .int], returnType := some .int }, accessFlags := 10, code := some k1c3 }
def k1c4 : Code := { maxStack := 6, maxLocals := 4, code := method_5_code, exceptionTable := #[], attributes := #[] }
def k1m4 : Method := { name := "setC", desc := "(JII)J", sig := { parameters := [.long, .int, .int], returnType := some .long }, accessFlags := 10, code := some k1c4 }
/-- ResponseTimeGateL6 -/
def k1 : Class := { plain "ResponseTimeGateL6" (some 0) with
  accessFlags := 33
  interfaces := #[]
  cf := some (fileOf pool1 25 #[] #[{ accessFlags := 1, nameIndex := 5, descriptorIndex := 6, attributes := #[] }, { accessFlags := 9, nameIndex := 72, descriptorIndex := 73, attributes := #[] }, { accessFlags := 10, nameIndex := 28, descriptorIndex := 29, attributes := #[] }, { accessFlags := 10, nameIndex := 35, descriptorIndex := 36, attributes := #[] }, { accessFlags := 10, nameIndex := 39, descriptorIndex := 40, attributes := #[] }] 33 2 #[] #[])
  fields := #[]
  methods := #[k1m0, k1m1, k1m2, k1m3, k1m4]
  instanceTypes := #[]
  staticTypes := #[]
  resolved := Array.replicate 79 none
  statics := none }

def pool2 : Array CpInfo := pool [(1, .methodref 2 3), (0, .class_ 4), (0, .nameAndType 5 6), (0, u "java/lang/Object"), (0, u "<init>"), (0, u "()V"), (0, .fieldref 8 9), (0, .class_ 10), (0, .nameAndType 11 12), (0, u "ResponseTimeGate"), (0, u "per"), (0, u "[I"), (0, .fieldref 8 14), (0, .nameAndType 15 12), (0, u "dl"), (0, .fieldref 8 17), (0, .nameAndType 18 12), (0, u "wc"), (0, .fieldref 8 20), (0, .nameAndType 21 12), (0, u "pr"), (0, .fieldref 8 23), (0, .nameAndType 24 12), (0, u "secS"), (0, .fieldref 8 26), (0, .nameAndType 27 12), (0, u "secL"), (0, .fieldref 8 29), (0, .nameAndType 30 12), (0, u "bnd"), (0, .fieldref 8 32), (0, .nameAndType 33 12), (0, u "blk"), (0, .fieldref 8 35), (0, .nameAndType 36 12), (0, u "ceil"), (0, .fieldref 8 38), (0, .nameAndType 39 12), (0, u "stS"), (0, .fieldref 8 41), (0, .nameAndType 42 12), (0, u "stL"), (0, .fieldref 8 44), (0, .nameAndType 45 12), (0, u "candCeil"), (0, .fieldref 8 47), (0, .nameAndType 48 12), (0, u "candB"), (0, .fieldref 8 50), (0, .nameAndType 51 12), (0, u "candR"), (0, .fieldref 8 53), (0, .nameAndType 54 55), (0, u "pend"), (0, u "[Z"), (0, .fieldref 8 57), (0, .nameAndType 58 12), (0, u "rel"), (0, .fieldref 8 60), (0, .nameAndType 61 12), (0, u "prog"), (0, .fieldref 8 63), (0, .nameAndType 64 12), (0, u "held"), (0, .fieldref 8 66), (0, .nameAndType 67 12), (0, u "done"), (0, .fieldref 8 69), (0, .nameAndType 70 12), (0, u "maxR"), (0, .fieldref 8 72), (0, .nameAndType 73 74), (0, u "cap"), (0, u "I"), (0, .fieldref 8 76), (0, .nameAndType 77 74), (0, u "count"), (0, .fieldref 8 79), (0, .nameAndType 80 81), (0, u "staged"), (0, u "Z"), (0, .fieldref 8 83), (0, .nameAndType 84 74), (0, u "failed"), (0, .fieldref 8 86), (0, .nameAndType 87 74), (0, u "hyper"), (0, .methodref 8 89), (0, .nameAndType 90 6), (0, u "resetSim"), (0, .methodref 8 92), (0, .nameAndType 93 94), (0, u "priorityTaken"), (0, u "(I)Z"), (0, .fieldref 8 96), (0, .nameAndType 97 74), (0, u "stT"), (0, .fieldref 8 99), (0, .nameAndType 100 74), (0, u "stD"), (0, .fieldref 8 102), (0, .nameAndType 103 74), (0, u "stC"), (0, .fieldref 8 105), (0, .nameAndType 106 74), (0, u "stP"), (0, .methodref 8 108), (0, .nameAndType 109 110), (0, u "overlapsStaged"), (0, u "(II)Z"), (0, .methodref 8 112), (0, .nameAndType 113 114), (0, u "lcmWith"), (0, u "(II)I"), (0, .methodref 8 116), (0, .nameAndType 117 118), (0, u "placeStaged"), (0, u "(I)V"), (0, .methodref 8 120), (0, .nameAndType 121 122), (0, u "analyze"), (0, u "(I)I"), (0, .methodref 8 124), (0, .nameAndType 125 118), (0, u "adoptResults"), (0, .methodref 8 127), (0, .nameAndType 128 114), (0, u "gcd"), (0, .methodref 8 130), (0, .nameAndType 131 118), (0, u "computeCeilings"), (0, .methodref 8 133), (0, .nameAndType 134 114), (0, u "blockingOf"), (0, .methodref 8 136), (0, .nameAndType 137 138), (0, u "responseOf"), (0, u "(III)I"), (0, .methodref 8 140), (0, .nameAndType 141 138), (0, u "interference"), (0, .methodref 8 143), (0, .nameAndType 144 94), (0, u "admitted"), (0, .fieldref 8 146), (0, .nameAndType 147 74), (0, u "now"), (0, .fieldref 8 149), (0, .nameAndType 150 74), (0, u "missCount"), (0, .methodref 8 152), (0, .nameAndType 153 6), (0, u "tick"), (0, .methodref 8 155), (0, .nameAndType 156 6), (0, u "releaseJobs"), (0, .methodref 8 158), (0, .nameAndType 159 160), (0, u "pickRunning"), (0, u "()I"), (0, .methodref 8 162), (0, .nameAndType 163 118), (0, u "executeUnit"), (0, .methodref 8 165), (0, .nameAndType 166 6), (0, u "checkMisses"), (0, .methodref 8 168), (0, .nameAndType 169 122), (0, u "activePriority"), (0, .methodref 8 171), (0, .nameAndType 172 118), (0, u "takeResourceIfStart"), (0, .methodref 8 174), (0, .nameAndType 175 118), (0, u "completeJob"), (0, u "MAX_TASKS"), (2, u "RESOURCES"), (1, u "MAX_PERIOD"), (1, u "HYPER_LIMIT"), (0, u "MAX_PRIORITY"), (1, u "MAX_RUN"), (0, u "OK"), (1, u "ERR_FULL"), (1, u "ERR_BAD_ARG"), (1, u "ERR_PRIORITY"), (1, u "ERR_NO_STAGED"), (1, u "ERR_SECTION"), (1, u "REJ_HYPER"), (1, u "REJ_DEADLINE"), (4, u "beginTask"), (0, u "(IIII)I"), (0, u "addSection"), (0, u "commitTask"), (0, u "taskCount"), (0, u "bound"), (1, u "ceiling"), (0, u "hyperperiod"), (0, u "failedTask"), (0, u "run"), (0, u "time"), (1, u "jobsDone"), (0, u "misses")] 4

def k2c0 : Code := { maxStack := 3, maxLocals := 4, code := prog_1_method_1_code, exceptionTable := #[], attributes := #[] }
def k2m0 : Method := { name := "<init>", desc := "(I)V", sig := { parameters := [.int], returnType := none }, accessFlags := 1, code := some k2c0 }
def k2c1 : Code := { maxStack := 3, maxLocals := 6, code := prog_1_method_2_code, exceptionTable := #[], attributes := #[] }
def k2m1 : Method := { name := "beginTask", desc := "(IIII)I", sig := { parameters := [.int, .int, .int, .int], returnType := some .int }, accessFlags := 1, code := some k2c1 }
def k2c2 : Code := { maxStack := 2, maxLocals := 3, code := prog_1_method_3_code, exceptionTable := #[], attributes := #[] }
def k2m2 : Method := { name := "priorityTaken", desc := "(I)Z", sig := { parameters := [.int], returnType := some .boolean }, accessFlags := 2, code := some k2c2 }
def k2c3 : Code := { maxStack := 3, maxLocals := 4, code := prog_1_method_4_code, exceptionTable := #[], attributes := #[] }
def k2m3 : Method := { name := "addSection", desc := "(III)I", sig := { parameters := [.int, .int, .int], returnType := some .int }, accessFlags := 1, code := some k2c3 }
def k2c4 : Code := { maxStack := 3, maxLocals := 6, code := prog_1_method_5_code, exceptionTable := #[], attributes := #[] }
def k2m4 : Method := { name := "overlapsStaged", desc := "(II)Z", sig := { parameters := [.int, .int], returnType := some .boolean }, accessFlags := 2, code := some k2c4 }
def k2c5 : Code := { maxStack := 3, maxLocals := 4, code := prog_1_method_6_code, exceptionTable := #[], attributes := #[] }
def k2m5 : Method := { name := "commitTask", desc := "()I", sig := { parameters := [], returnType := some .int }, accessFlags := 1, code := some k2c5 }
def k2c6 : Code := { maxStack := 4, maxLocals := 3, code := prog_1_method_7_code, exceptionTable := #[], attributes := #[] }
def k2m6 : Method := { name := "placeStaged", desc := "(I)V", sig := { parameters := [.int], returnType := none }, accessFlags := 2, code := some k2c6 }
def k2c7 : Code := { maxStack := 4, maxLocals := 3, code := prog_1_method_8_code, exceptionTable := #[], attributes := #[] }
def k2m7 : Method := { name := "adoptResults", desc := "(I)V", sig := { parameters := [.int], returnType := none }, accessFlags := 2, code := some k2c7 }
def k2c8 : Code := { maxStack := 2, maxLocals := 7, code := prog_1_method_9_code, exceptionTable := #[], attributes := #[] }
def k2m8 : Method := { name := "gcd", desc := "(II)I", sig := { parameters := [.int, .int], returnType := some .int }, accessFlags := 2, code := some k2c8 }
def k2c9 : Code := { maxStack := 3, maxLocals := 4, code := prog_1_method_10_code, exceptionTable := #[], attributes := #[] }
def k2m9 : Method := { name := "lcmWith", desc := "(II)I", sig := { parameters := [.int, .int], returnType := some .int }, accessFlags := 2, code := some k2c9 }
def k2c10 : Code := { maxStack := 4, maxLocals := 5, code := prog_1_method_11_code, exceptionTable := #[], attributes := #[] }
def k2m10 : Method := { name := "analyze", desc := "(I)I", sig := { parameters := [.int], returnType := some .int }, accessFlags := 2, code := some k2c10 }
def k2c11 : Code := { maxStack := 3, maxLocals := 5, code := prog_1_method_12_code, exceptionTable := #[], attributes := #[] }
def k2m11 : Method := { name := "computeCeilings", desc := "(I)V", sig := { parameters := [.int], returnType := none }, accessFlags := 2, code := some k2c11 }
def k2c12 : Code := { maxStack := 3, maxLocals := 8, code := prog_1_method_13_code, exceptionTable := #[], attributes := #[] }
def k2m12 : Method := { name := "blockingOf", desc := "(II)I", sig := { parameters := [.int, .int], returnType := some .int }, accessFlags := 2, code := some k2c12 }
def k2c13 : Code := { maxStack := 5, maxLocals := 8, code := prog_1_method_14_code, exceptionTable := #[], attributes := #[] }
def k2m13 : Method := { name := "responseOf", desc := "(III)I", sig := { parameters := [.int, .int, .int], returnType := some .int }, accessFlags := 2, code := some k2c13 }
def k2c14 : Code := { maxStack := 4, maxLocals := 8, code := prog_1_method_15_code, exceptionTable := #[], attributes := #[] }
def k2m14 : Method := { name := "interference", desc := "(III)I", sig := { parameters := [.int, .int, .int], returnType := some .int }, accessFlags := 2, code := some k2c14 }
def k2c15 : Code := { maxStack := 2, maxLocals := 2, code := prog_1_method_16_code, exceptionTable := #[], attributes := #[] }
def k2m15 : Method := { name := "admitted", desc := "(I)Z", sig := { parameters := [.int], returnType := some .boolean }, accessFlags := 2, code := some k2c15 }
def k2c16 : Code := { maxStack := 1, maxLocals := 1, code := prog_1_method_17_code, exceptionTable := #[], attributes := #[] }
def k2m16 : Method := { name := "taskCount", desc := "()I", sig := { parameters := [], returnType := some .int }, accessFlags := 1, code := some k2c16 }
def k2c17 : Code := { maxStack := 2, maxLocals := 2, code := prog_1_method_18_code, exceptionTable := #[], attributes := #[] }
def k2m17 : Method := { name := "bound", desc := "(I)I", sig := { parameters := [.int], returnType := some .int }, accessFlags := 1, code := some k2c17 }
def k2c18 : Code := { maxStack := 2, maxLocals := 2, code := prog_1_method_20_code, exceptionTable := #[], attributes := #[] }
def k2m18 : Method := { name := "ceiling", desc := "(I)I", sig := { parameters := [.int], returnType := some .int }, accessFlags := 1, code := some k2c18 }
def k2c19 : Code := { maxStack := 1, maxLocals := 1, code := prog_1_method_21_code, exceptionTable := #[], attributes := #[] }
def k2m19 : Method := { name := "hyperperiod", desc := "()I", sig := { parameters := [], returnType := some .int }, accessFlags := 1, code := some k2c19 }
def k2c20 : Code := { maxStack := 1, maxLocals := 1, code := prog_1_method_22_code, exceptionTable := #[], attributes := #[] }
def k2m20 : Method := { name := "failedTask", desc := "()I", sig := { parameters := [], returnType := some .int }, accessFlags := 1, code := some k2c20 }
def k2c21 : Code := { maxStack := 3, maxLocals := 2, code := prog_1_method_23_code, exceptionTable := #[], attributes := #[] }
def k2m21 : Method := { name := "resetSim", desc := "()V", sig := { parameters := [], returnType := none }, accessFlags := 2, code := some k2c21 }
def k2c22 : Code := { maxStack := 2, maxLocals := 4, code := prog_1_method_24_code, exceptionTable := #[], attributes := #[] }
def k2m22 : Method := { name := "run", desc := "(I)I", sig := { parameters := [.int], returnType := some .int }, accessFlags := 1, code := some k2c22 }
def k2c23 : Code := { maxStack := 3, maxLocals := 2, code := prog_1_method_25_code, exceptionTable := #[], attributes := #[] }
def k2m23 : Method := { name := "tick", desc := "()V", sig := { parameters := [], returnType := none }, accessFlags := 2, code := some k2c23 }
def k2c24 : Code := { maxStack := 3, maxLocals := 3, code := prog_1_method_26_code, exceptionTable := #[], attributes := #[] }
def k2m24 : Method := { name := "releaseJobs", desc := "()V", sig := { parameters := [], returnType := none }, accessFlags := 2, code := some k2c24 }
def k2c25 : Code := { maxStack := 2, maxLocals := 3, code := prog_1_method_27_code, exceptionTable := #[], attributes := #[] }
def k2m25 : Method := { name := "activePriority", desc := "(I)I", sig := { parameters := [.int], returnType := some .int }, accessFlags := 2, code := some k2c25 }
def k2c26 : Code := { maxStack := 2, maxLocals := 7, code := prog_1_method_28_code, exceptionTable := #[], attributes := #[] }
def k2m26 : Method := { name := "pickRunning", desc := "()I", sig := { parameters := [], returnType := some .int }, accessFlags := 2, code := some k2c26 }
def k2c27 : Code := { maxStack := 3, maxLocals := 3, code := prog_1_method_29_code, exceptionTable := #[], attributes := #[] }
def k2m27 : Method := { name := "takeResourceIfStart", desc := "(I)V", sig := { parameters := [.int], returnType := none }, accessFlags := 2, code := some k2c27 }
def k2c28 : Code := { maxStack := 5, maxLocals := 3, code := prog_1_method_30_code, exceptionTable := #[], attributes := #[] }
def k2m28 : Method := { name := "executeUnit", desc := "(I)V", sig := { parameters := [.int], returnType := none }, accessFlags := 2, code := some k2c28 }
def k2c29 : Code := { maxStack := 4, maxLocals := 3, code := prog_1_method_31_code, exceptionTable := #[], attributes := #[] }
def k2m29 : Method := { name := "completeJob", desc := "(I)V", sig := { parameters := [.int], returnType := none }, accessFlags := 2, code := some k2c29 }
def k2c30 : Code := { maxStack := 3, maxLocals := 2, code := prog_1_method_32_code, exceptionTable := #[], attributes := #[] }
def k2m30 : Method := { name := "checkMisses", desc := "()V", sig := { parameters := [], returnType := none }, accessFlags := 2, code := some k2c30 }
def k2c31 : Code := { maxStack := 1, maxLocals := 1, code := prog_1_method_33_code, exceptionTable := #[], attributes := #[] }
def k2m31 : Method := { name := "time", desc := "()I", sig := { parameters := [], returnType := some .int }, accessFlags := 1, code := some k2c31 }
def k2c32 : Code := { maxStack := 2, maxLocals := 2, code := prog_1_method_35_code, exceptionTable := #[], attributes := #[] }
def k2m32 : Method := { name := "jobsDone", desc := "(I)I", sig := { parameters := [.int], returnType := some .int }, accessFlags := 1, code := some k2c32 }
def k2c33 : Code := { maxStack := 1, maxLocals := 1, code := prog_1_method_36_code, exceptionTable := #[], attributes := #[] }
def k2m33 : Method := { name := "misses", desc := "()I", sig := { parameters := [], returnType := some .int }, accessFlags := 1, code := some k2c33 }
/-- ResponseTimeGate -/
def k2 : Class := { plain "ResponseTimeGate" (some 0) with
  accessFlags := 49
  interfaces := #[]
  cf := some (fileOf pool2 8 #[] #[{ accessFlags := 1, nameIndex := 5, descriptorIndex := 118, attributes := #[] }, { accessFlags := 1, nameIndex := 206, descriptorIndex := 207, attributes := #[] }, { accessFlags := 2, nameIndex := 93, descriptorIndex := 94, attributes := #[] }, { accessFlags := 1, nameIndex := 208, descriptorIndex := 138, attributes := #[] }, { accessFlags := 2, nameIndex := 109, descriptorIndex := 110, attributes := #[] }, { accessFlags := 1, nameIndex := 209, descriptorIndex := 160, attributes := #[] }, { accessFlags := 2, nameIndex := 117, descriptorIndex := 118, attributes := #[] }, { accessFlags := 2, nameIndex := 125, descriptorIndex := 118, attributes := #[] }, { accessFlags := 2, nameIndex := 128, descriptorIndex := 114, attributes := #[] }, { accessFlags := 2, nameIndex := 113, descriptorIndex := 114, attributes := #[] }, { accessFlags := 2, nameIndex := 121, descriptorIndex := 122, attributes := #[] }, { accessFlags := 2, nameIndex := 131, descriptorIndex := 118, attributes := #[] }, { accessFlags := 2, nameIndex := 134, descriptorIndex := 114, attributes := #[] }, { accessFlags := 2, nameIndex := 137, descriptorIndex := 138, attributes := #[] }, { accessFlags := 2, nameIndex := 141, descriptorIndex := 138, attributes := #[] }, { accessFlags := 2, nameIndex := 144, descriptorIndex := 94, attributes := #[] }, { accessFlags := 1, nameIndex := 210, descriptorIndex := 160, attributes := #[] }, { accessFlags := 1, nameIndex := 211, descriptorIndex := 122, attributes := #[] }, { accessFlags := 1, nameIndex := 213, descriptorIndex := 122, attributes := #[] }, { accessFlags := 1, nameIndex := 214, descriptorIndex := 160, attributes := #[] }, { accessFlags := 1, nameIndex := 215, descriptorIndex := 160, attributes := #[] }, { accessFlags := 2, nameIndex := 90, descriptorIndex := 6, attributes := #[] }, { accessFlags := 1, nameIndex := 216, descriptorIndex := 122, attributes := #[] }, { accessFlags := 2, nameIndex := 153, descriptorIndex := 6, attributes := #[] }, { accessFlags := 2, nameIndex := 156, descriptorIndex := 6, attributes := #[] }, { accessFlags := 2, nameIndex := 169, descriptorIndex := 122, attributes := #[] }, { accessFlags := 2, nameIndex := 159, descriptorIndex := 160, attributes := #[] }, { accessFlags := 2, nameIndex := 172, descriptorIndex := 118, attributes := #[] }, { accessFlags := 2, nameIndex := 163, descriptorIndex := 118, attributes := #[] }, { accessFlags := 2, nameIndex := 175, descriptorIndex := 118, attributes := #[] }, { accessFlags := 2, nameIndex := 166, descriptorIndex := 6, attributes := #[] }, { accessFlags := 1, nameIndex := 217, descriptorIndex := 160, attributes := #[] }, { accessFlags := 1, nameIndex := 219, descriptorIndex := 122, attributes := #[] }, { accessFlags := 1, nameIndex := 220, descriptorIndex := 160, attributes := #[] }] 49 2 #[] #[{ accessFlags := 25, nameIndex := 176, descriptorIndex := 74, attributes := #[] }, { accessFlags := 25, nameIndex := 179, descriptorIndex := 74, attributes := #[] }, { accessFlags := 25, nameIndex := 181, descriptorIndex := 74, attributes := #[] }, { accessFlags := 25, nameIndex := 183, descriptorIndex := 74, attributes := #[] }, { accessFlags := 25, nameIndex := 184, descriptorIndex := 74, attributes := #[] }, { accessFlags := 25, nameIndex := 186, descriptorIndex := 74, attributes := #[] }, { accessFlags := 25, nameIndex := 187, descriptorIndex := 74, attributes := #[] }, { accessFlags := 25, nameIndex := 189, descriptorIndex := 74, attributes := #[] }, { accessFlags := 25, nameIndex := 191, descriptorIndex := 74, attributes := #[] }, { accessFlags := 25, nameIndex := 193, descriptorIndex := 74, attributes := #[] }, { accessFlags := 25, nameIndex := 195, descriptorIndex := 74, attributes := #[] }, { accessFlags := 25, nameIndex := 197, descriptorIndex := 74, attributes := #[] }, { accessFlags := 25, nameIndex := 199, descriptorIndex := 74, attributes := #[] }, { accessFlags := 25, nameIndex := 201, descriptorIndex := 74, attributes := #[] }, { accessFlags := 2, nameIndex := 73, descriptorIndex := 74, attributes := #[] }, { accessFlags := 2, nameIndex := 77, descriptorIndex := 74, attributes := #[] }, { accessFlags := 2, nameIndex := 11, descriptorIndex := 12, attributes := #[] }, { accessFlags := 2, nameIndex := 15, descriptorIndex := 12, attributes := #[] }, { accessFlags := 2, nameIndex := 18, descriptorIndex := 12, attributes := #[] }, { accessFlags := 2, nameIndex := 21, descriptorIndex := 12, attributes := #[] }, { accessFlags := 2, nameIndex := 24, descriptorIndex := 12, attributes := #[] }, { accessFlags := 2, nameIndex := 27, descriptorIndex := 12, attributes := #[] }, { accessFlags := 2, nameIndex := 30, descriptorIndex := 12, attributes := #[] }, { accessFlags := 2, nameIndex := 33, descriptorIndex := 12, attributes := #[] }, { accessFlags := 2, nameIndex := 36, descriptorIndex := 12, attributes := #[] }, { accessFlags := 2, nameIndex := 87, descriptorIndex := 74, attributes := #[] }, { accessFlags := 2, nameIndex := 84, descriptorIndex := 74, attributes := #[] }, { accessFlags := 2, nameIndex := 80, descriptorIndex := 81, attributes := #[] }, { accessFlags := 2, nameIndex := 97, descriptorIndex := 74, attributes := #[] }, { accessFlags := 2, nameIndex := 100, descriptorIndex := 74, attributes := #[] }, { accessFlags := 2, nameIndex := 103, descriptorIndex := 74, attributes := #[] }, { accessFlags := 2, nameIndex := 106, descriptorIndex := 74, attributes := #[] }, { accessFlags := 2, nameIndex := 39, descriptorIndex := 12, attributes := #[] }, { accessFlags := 2, nameIndex := 42, descriptorIndex := 12, attributes := #[] }, { accessFlags := 2, nameIndex := 45, descriptorIndex := 12, attributes := #[] }, { accessFlags := 2, nameIndex := 48, descriptorIndex := 12, attributes := #[] }, { accessFlags := 2, nameIndex := 51, descriptorIndex := 12, attributes := #[] }, { accessFlags := 2, nameIndex := 147, descriptorIndex := 74, attributes := #[] }, { accessFlags := 2, nameIndex := 150, descriptorIndex := 74, attributes := #[] }, { accessFlags := 2, nameIndex := 54, descriptorIndex := 55, attributes := #[] }, { accessFlags := 2, nameIndex := 58, descriptorIndex := 12, attributes := #[] }, { accessFlags := 2, nameIndex := 61, descriptorIndex := 12, attributes := #[] }, { accessFlags := 2, nameIndex := 64, descriptorIndex := 12, attributes := #[] }, { accessFlags := 2, nameIndex := 67, descriptorIndex := 12, attributes := #[] }, { accessFlags := 2, nameIndex := 70, descriptorIndex := 12, attributes := #[] }])
  fields := #[{ name := "MAX_TASKS", type := .int, accessFlags := 25, slot := 0, constantValue := 0 }, { name := "RESOURCES", type := .int, accessFlags := 25, slot := 1, constantValue := 0 }, { name := "MAX_PERIOD", type := .int, accessFlags := 25, slot := 2, constantValue := 0 }, { name := "HYPER_LIMIT", type := .int, accessFlags := 25, slot := 3, constantValue := 0 }, { name := "MAX_PRIORITY", type := .int, accessFlags := 25, slot := 4, constantValue := 0 }, { name := "MAX_RUN", type := .int, accessFlags := 25, slot := 5, constantValue := 0 }, { name := "OK", type := .int, accessFlags := 25, slot := 6, constantValue := 0 }, { name := "ERR_FULL", type := .int, accessFlags := 25, slot := 7, constantValue := 0 }, { name := "ERR_BAD_ARG", type := .int, accessFlags := 25, slot := 8, constantValue := 0 }, { name := "ERR_PRIORITY", type := .int, accessFlags := 25, slot := 9, constantValue := 0 }, { name := "ERR_NO_STAGED", type := .int, accessFlags := 25, slot := 10, constantValue := 0 }, { name := "ERR_SECTION", type := .int, accessFlags := 25, slot := 11, constantValue := 0 }, { name := "REJ_HYPER", type := .int, accessFlags := 25, slot := 12, constantValue := 0 }, { name := "REJ_DEADLINE", type := .int, accessFlags := 25, slot := 13, constantValue := 0 }, { name := "cap", type := .int, accessFlags := 2, slot := 0, constantValue := 0 }, { name := "count", type := .int, accessFlags := 2, slot := 1, constantValue := 0 }, { name := "per", type := (.array .int), accessFlags := 2, slot := 2, constantValue := 0 }, { name := "dl", type := (.array .int), accessFlags := 2, slot := 3, constantValue := 0 }, { name := "wc", type := (.array .int), accessFlags := 2, slot := 4, constantValue := 0 }, { name := "pr", type := (.array .int), accessFlags := 2, slot := 5, constantValue := 0 }, { name := "secS", type := (.array .int), accessFlags := 2, slot := 6, constantValue := 0 }, { name := "secL", type := (.array .int), accessFlags := 2, slot := 7, constantValue := 0 }, { name := "bnd", type := (.array .int), accessFlags := 2, slot := 8, constantValue := 0 }, { name := "blk", type := (.array .int), accessFlags := 2, slot := 9, constantValue := 0 }, { name := "ceil", type := (.array .int), accessFlags := 2, slot := 10, constantValue := 0 }, { name := "hyper", type := .int, accessFlags := 2, slot := 11, constantValue := 0 }, { name := "failed", type := .int, accessFlags := 2, slot := 12, constantValue := 0 }, { name := "staged", type := .boolean, accessFlags := 2, slot := 13, constantValue := 0 }, { name := "stT", type := .int, accessFlags := 2, slot := 14, constantValue := 0 }, { name := "stD", type := .int, accessFlags := 2, slot := 15, constantValue := 0 }, { name := "stC", type := .int, accessFlags := 2, slot := 16, constantValue := 0 }, { name := "stP", type := .int, accessFlags := 2, slot := 17, constantValue := 0 }, { name := "stS", type := (.array .int), accessFlags := 2, slot := 18, constantValue := 0 }, { name := "stL", type := (.array .int), accessFlags := 2, slot := 19, constantValue := 0 }, { name := "candCeil", type := (.array .int), accessFlags := 2, slot := 20, constantValue := 0 }, { name := "candB", type := (.array .int), accessFlags := 2, slot := 21, constantValue := 0 }, { name := "candR", type := (.array .int), accessFlags := 2, slot := 22, constantValue := 0 }, { name := "now", type := .int, accessFlags := 2, slot := 23, constantValue := 0 }, { name := "missCount", type := .int, accessFlags := 2, slot := 24, constantValue := 0 }, { name := "pend", type := (.array .boolean), accessFlags := 2, slot := 25, constantValue := 0 }, { name := "rel", type := (.array .int), accessFlags := 2, slot := 26, constantValue := 0 }, { name := "prog", type := (.array .int), accessFlags := 2, slot := 27, constantValue := 0 }, { name := "held", type := (.array .int), accessFlags := 2, slot := 28, constantValue := 0 }, { name := "done", type := (.array .int), accessFlags := 2, slot := 29, constantValue := 0 }, { name := "maxR", type := (.array .int), accessFlags := 2, slot := 30, constantValue := 0 }]
  methods := #[k2m0, k2m1, k2m2, k2m3, k2m4, k2m5, k2m6, k2m7, k2m8, k2m9, k2m10, k2m11, k2m12, k2m13, k2m14, k2m15, k2m16, k2m17, k2m18, k2m19, k2m20, k2m21, k2m22, k2m23, k2m24, k2m25, k2m26, k2m27, k2m28, k2m29, k2m30, k2m31, k2m32, k2m33]
  instanceTypes := #[.int, .int, (.array .int), (.array .int), (.array .int), (.array .int), (.array .int), (.array .int), (.array .int), (.array .int), (.array .int), .int, .int, .boolean, .int, .int, .int, .int, (.array .int), (.array .int), (.array .int), (.array .int), (.array .int), .int, .int, (.array .boolean), (.array .int), (.array .int), (.array .int), (.array .int), (.array .int)]
  staticTypes := #[.int, .int, .int, .int, .int, .int, .int, .int, .int, .int, .int, .int, .int, .int]
  resolved := Array.replicate 225 none
  statics := none }

def pool3 : Array CpInfo := pool [(1, u "java/lang/Cloneable"), (0, .class_ 1), (0, u "java/lang/Object"), (0, .class_ 3)] 3

/-- java/lang/Cloneable -/
def k3 : Class := { plain "java/lang/Cloneable" (some 0) with
  accessFlags := 1537
  interfaces := #[]
  cf := some (fileOf pool3 2 #[] #[] 1537 4 #[] #[])
  fields := #[]
  methods := #[]
  instanceTypes := #[]
  staticTypes := #[]
  resolved := Array.replicate 8 none
  statics := none }

def pool4 : Array CpInfo := pool [(1, u "java/io/Serializable"), (0, .class_ 1), (0, u "java/lang/Object"), (0, .class_ 3)] 3

/-- java/io/Serializable -/
def k4 : Class := { plain "java/io/Serializable" (some 0) with
  accessFlags := 1537
  interfaces := #[]
  cf := some (fileOf pool4 2 #[] #[] 1537 4 #[] #[])
  fields := #[]
  methods := #[]
  instanceTypes := #[]
  staticTypes := #[]
  resolved := Array.replicate 8 none
  statics := none }

/-- the primitive boolean -/
def k5 : Class := { plain "boolean" none with kind := .primitive 'Z', accessFlags := 0x411 }
/-- [Z -/
def k6 : Class := { plain "[Z" (some 0) with kind := .array 5 .boolean, interfaces := #[3, 4], accessFlags := 1041 }

/-- the primitive byte -/
def k7 : Class := { plain "byte" none with kind := .primitive 'B', accessFlags := 0x411 }
/-- [B -/
def k8 : Class := { plain "[B" (some 0) with kind := .array 7 .byte, interfaces := #[3, 4], accessFlags := 1041 }

/-- the primitive int -/
def k9 : Class := { plain "int" none with kind := .primitive 'I', accessFlags := 0x411 }
/-- [I -/
def k10 : Class := { plain "[I" (some 0) with kind := .array 9 .int, interfaces := #[3, 4], accessFlags := 1041 }

def heap : Heap := #[{ cls := 10, slots := #[.int 4, .int 0, .int 1, .int 2, .int 3, .int 5], vm := .none }]
def classes : Array Class := #[k0, k1, k2, k3, k4, k5, k6, k7, k8, k9, k10]
def interned : List (Array UInt16 × Addr) := []
def slotsUsed : Nat := 6
def theMethod : MethodId := ⟨1, 1⟩
def args0 : Array Value := #[.ref 0]
def aboutOver (below : List Frame) : State where
  vm := { classes := classes, interned := interned.toArray }
  heap := heap
  slotsUsed := slotsUsed
  threads := #[{ frames := .invoking theMethod args0 :: below }]
def below0 : List Frame := [.native { method := ⟨0, 0⟩, args := #[] }]
def about1 : State := aboutOver below0
def p0 : Program := .bare "" "" ""
def e0 : Env := launch0.env 0 0 0
theorem w_frames : about1.frames = Frame.invoking theMethod args0 :: below0 := rfl
set_option maxRecDepth 65536 in
theorem w_args : argsFit about1.vm theMethod args0 = true := by decide +kernel
set_option maxRecDepth 65536 in
theorem w_heap : heapFits about1 = true := by decide +kernel
set_option maxRecDepth 65536 in
theorem w_runnable : about1.curStatus? = some .runnable := by decide +kernel
set_option maxRecDepth 65536 in
theorem w_alone : about1.alone = true := by decide +kernel
set_option maxRecDepth 65536 in
theorem w_named : about1.methodNamed? x = some theMethod := by decide +kernel
set_option maxRecDepth 65536 in
theorem w_hears : about1.hears theMethod below0 = true := by decide +kernel
set_option maxRecDepth 65536 in
theorem w_ripe : about1.ripe theMethod args0 below0 = true := by decide +kernel
theorem w_running : about1.status = .running := rfl
set_option maxRecDepth 65536 in
theorem w_room : about1.hasRoom e0.platform room_1 = true :=
  launch0.hasRoom_least _ room_1 (by decide +kernel) (by decide +kernel) (by decide +kernel) (by decide +kernel) (by decide +kernel) (by decide +kernel)
theorem allAtoms_all (ts : List Jvm.Cond) (a : Array Jvm.Value) (st : Jvm.State) : (allAtoms ts).before a st = ts.all (fun c => c.before a st) := by
  induction ts with
  | nil => rfl
  | cons c t ih =>
    show (Jvm.Cond.and c (allAtoms t)).before a st = _
    rw [Jvm.Cond.before_and, ih, List.all_cons]
def words1 : List Jvm.Cond := Jvm.Cond.code x code maxLocals ret :: tables_1
/-- a 'code' word, met by the world's own term for the bytes: nothing is compared byte by byte -/
theorem code_word {y : MethodName} {bytes : ByteArray} {mx : Nat} {rt : Option FieldType} {a : Array Value} {s : State} {m : MethodId} {meth : Method} {c : Code} (h1 : s.methodNamed? y = some m) (h2 : s.vm.method? m = some meth) (h3 : meth.code = some c) (h4 : c.code = bytes)
    (h5 : (c.maxLocals == mx && c.exceptionTable.isEmpty && decide (c.maxStack ≤ mostOperands) && decide (meth.sig.returnType = rt) && !meth.locks && decide (parseMethodDescriptor y.desc = some meth.sig)) = true) : (Jvm.Cond.code y bytes mx rt).before a s = true := by
  simp only [Bool.and_eq_true, beq_iff_eq, Bool.not_eq_true', decide_eq_true_eq] at h5
  obtain ⟨⟨⟨⟨⟨g1, g2⟩, g3⟩, g4⟩, g5⟩, g6⟩ := h5
  simp [Cond.before, Cond.holds, Cond.value, h1, h2, h3, h4, g1, g2, g3, g4, g5, g6]
def isCode : Jvm.Cond → Bool
  | .code _ _ _ _ => true
  | _ => false
theorem all_split {L : List Jvm.Cond} {P : Jvm.Cond → Bool} (h1 : L.all (fun c => isCode c || P c) = true) (h2 : ∀ c ∈ L.filter isCode, P c = true) : L.all P = true := by
  refine List.all_eq_true.mpr fun c hc => ?_
  have h := List.all_eq_true.mp h1 c hc
  rcases Bool.eq_false_or_eq_true (isCode c) with hi | hi
  · exact h2 c (List.mem_filter.mpr ⟨hc, hi⟩)
  · simpa [hi] using h
set_option maxRecDepth 65536 in
theorem w_c0 : (Jvm.Cond.code x code maxLocals ret).before args0 about1 = true := code_word (m := ⟨1, 1⟩) (meth := k1m1) (c := k1c1) (by decide +kernel) rfl rfl rfl (by decide +kernel)
set_option maxRecDepth 65536 in
theorem w_c1 : (Jvm.Cond.code ({ cls := "ResponseTimeGate", name := "<init>", desc := "(I)V" } : Jvm.MethodName) prog_1_method_1_code (4 : Nat) (Option.none : Option Jvm.ClassFile.FieldType)).before args0 about1 = true := code_word (m := ⟨2, 0⟩) (meth := k2m0) (c := k2c0) (by decide +kernel) rfl rfl rfl (by decide +kernel)
set_option maxRecDepth 65536 in
theorem w_c2 : (Jvm.Cond.code ({ cls := "java/lang/Object", name := "<init>", desc := "()V" } : Jvm.MethodName) object_method_1_code (1 : Nat) (Option.none : Option Jvm.ClassFile.FieldType)).before args0 about1 = true := code_word (m := ⟨0, 0⟩) (meth := k0m0) (c := k0c0) (by decide +kernel) rfl rfl rfl (by decide +kernel)
set_option maxRecDepth 65536 in
theorem w_c3 : (Jvm.Cond.code ({ cls := "ResponseTimeGate", name := "resetSim", desc := "()V" } : Jvm.MethodName) prog_1_method_23_code (2 : Nat) (Option.none : Option Jvm.ClassFile.FieldType)).before args0 about1 = true := code_word (m := ⟨2, 21⟩) (meth := k2m21) (c := k2c21) (by decide +kernel) rfl rfl rfl (by decide +kernel)
set_option maxRecDepth 65536 in
theorem w_c4 : (Jvm.Cond.code ({ cls := "ResponseTimeGate", name := "commitTask", desc := "()I" } : Jvm.MethodName) prog_1_method_6_code (4 : Nat) (Option.some Jvm.ClassFile.FieldType.int)).before args0 about1 = true := code_word (m := ⟨2, 5⟩) (meth := k2m5) (c := k2c5) (by decide +kernel) rfl rfl rfl (by decide +kernel)
set_option maxRecDepth 65536 in
theorem w_c5 : (Jvm.Cond.code ({ cls := "ResponseTimeGate", name := "misses", desc := "()I" } : Jvm.MethodName) prog_1_method_36_code (1 : Nat) (Option.some Jvm.ClassFile.FieldType.int)).before args0 about1 = true := code_word (m := ⟨2, 33⟩) (meth := k2m33) (c := k2c33) (by decide +kernel) rfl rfl rfl (by decide +kernel)
set_option maxRecDepth 65536 in
theorem w_c6 : (Jvm.Cond.code ({ cls := "ResponseTimeGate", name := "taskCount", desc := "()I" } : Jvm.MethodName) prog_1_method_17_code (1 : Nat) (Option.some Jvm.ClassFile.FieldType.int)).before args0 about1 = true := code_word (m := ⟨2, 16⟩) (meth := k2m16) (c := k2c16) (by decide +kernel) rfl rfl rfl (by decide +kernel)
set_option maxRecDepth 65536 in
theorem w_c7 : (Jvm.Cond.code ({ cls := "ResponseTimeGate", name := "hyperperiod", desc := "()I" } : Jvm.MethodName) prog_1_method_21_code (1 : Nat) (Option.some Jvm.ClassFile.FieldType.int)).before args0 about1 = true := code_word (m := ⟨2, 19⟩) (meth := k2m19) (c := k2c19) (by decide +kernel) rfl rfl rfl (by decide +kernel)
set_option maxRecDepth 65536 in
theorem w_c8 : (Jvm.Cond.code ({ cls := "ResponseTimeGate", name := "failedTask", desc := "()I" } : Jvm.MethodName) prog_1_method_22_code (1 : Nat) (Option.some Jvm.ClassFile.FieldType.int)).before args0 about1 = true := code_word (m := ⟨2, 20⟩) (meth := k2m20) (c := k2c20) (by decide +kernel) rfl rfl rfl (by decide +kernel)
set_option maxRecDepth 65536 in
theorem w_c9 : (Jvm.Cond.code ({ cls := "ResponseTimeGate", name := "time", desc := "()I" } : Jvm.MethodName) prog_1_method_33_code (1 : Nat) (Option.some Jvm.ClassFile.FieldType.int)).before args0 about1 = true := code_word (m := ⟨2, 31⟩) (meth := k2m31) (c := k2c31) (by decide +kernel) rfl rfl rfl (by decide +kernel)
set_option maxRecDepth 65536 in
theorem w_c10 : (Jvm.Cond.code ({ cls := "ResponseTimeGate", name := "bound", desc := "(I)I" } : Jvm.MethodName) prog_1_method_18_code (2 : Nat) (Option.some Jvm.ClassFile.FieldType.int)).before args0 about1 = true := code_word (m := ⟨2, 17⟩) (meth := k2m17) (c := k2c17) (by decide +kernel) rfl rfl rfl (by decide +kernel)
set_option maxRecDepth 65536 in
theorem w_c11 : (Jvm.Cond.code ({ cls := "ResponseTimeGate", name := "admitted", desc := "(I)Z" } : Jvm.MethodName) prog_1_method_16_code (2 : Nat) (Option.some Jvm.ClassFile.FieldType.boolean)).before args0 about1 = true := code_word (m := ⟨2, 15⟩) (meth := k2m15) (c := k2c15) (by decide +kernel) rfl rfl rfl (by decide +kernel)
set_option maxRecDepth 65536 in
theorem w_c12 : (Jvm.Cond.code ({ cls := "ResponseTimeGate", name := "jobsDone", desc := "(I)I" } : Jvm.MethodName) prog_1_method_35_code (2 : Nat) (Option.some Jvm.ClassFile.FieldType.int)).before args0 about1 = true := code_word (m := ⟨2, 32⟩) (meth := k2m32) (c := k2c32) (by decide +kernel) rfl rfl rfl (by decide +kernel)
set_option maxRecDepth 65536 in
theorem w_c13 : (Jvm.Cond.code ({ cls := "ResponseTimeGate", name := "ceiling", desc := "(I)I" } : Jvm.MethodName) prog_1_method_20_code (2 : Nat) (Option.some Jvm.ClassFile.FieldType.int)).before args0 about1 = true := code_word (m := ⟨2, 18⟩) (meth := k2m18) (c := k2c18) (by decide +kernel) rfl rfl rfl (by decide +kernel)
set_option maxRecDepth 65536 in
theorem w_c14 : (Jvm.Cond.code ({ cls := "ResponseTimeGateL6", name := "getC", desc := "(JI)I" } : Jvm.MethodName) method_4_code (3 : Nat) (Option.some Jvm.ClassFile.FieldType.int)).before args0 about1 = true := code_word (m := ⟨1, 3⟩) (meth := k1m3) (c := k1c3) (by decide +kernel) rfl rfl rfl (by decide +kernel)
set_option maxRecDepth 65536 in
theorem w_c15 : (Jvm.Cond.code ({ cls := "ResponseTimeGate", name := "addSection", desc := "(III)I" } : Jvm.MethodName) prog_1_method_4_code (4 : Nat) (Option.some Jvm.ClassFile.FieldType.int)).before args0 about1 = true := code_word (m := ⟨2, 3⟩) (meth := k2m3) (c := k2c3) (by decide +kernel) rfl rfl rfl (by decide +kernel)
set_option maxRecDepth 65536 in
theorem w_c16 : (Jvm.Cond.code ({ cls := "ResponseTimeGate", name := "beginTask", desc := "(IIII)I" } : Jvm.MethodName) prog_1_method_2_code (6 : Nat) (Option.some Jvm.ClassFile.FieldType.int)).before args0 about1 = true := code_word (m := ⟨2, 1⟩) (meth := k2m1) (c := k2c1) (by decide +kernel) rfl rfl rfl (by decide +kernel)
set_option maxRecDepth 65536 in
theorem w_c17 : (Jvm.Cond.code ({ cls := "ResponseTimeGate", name := "priorityTaken", desc := "(I)Z" } : Jvm.MethodName) prog_1_method_3_code (3 : Nat) (Option.some Jvm.ClassFile.FieldType.boolean)).before args0 about1 = true := code_word (m := ⟨2, 2⟩) (meth := k2m2) (c := k2c2) (by decide +kernel) rfl rfl rfl (by decide +kernel)
set_option maxRecDepth 65536 in
theorem w_c18 : (Jvm.Cond.code ({ cls := "ResponseTimeGate", name := "overlapsStaged", desc := "(II)Z" } : Jvm.MethodName) prog_1_method_5_code (6 : Nat) (Option.some Jvm.ClassFile.FieldType.boolean)).before args0 about1 = true := code_word (m := ⟨2, 4⟩) (meth := k2m4) (c := k2c4) (by decide +kernel) rfl rfl rfl (by decide +kernel)
set_option maxRecDepth 65536 in
theorem w_c19 : (Jvm.Cond.code ({ cls := "ResponseTimeGate", name := "lcmWith", desc := "(II)I" } : Jvm.MethodName) prog_1_method_10_code (4 : Nat) (Option.some Jvm.ClassFile.FieldType.int)).before args0 about1 = true := code_word (m := ⟨2, 9⟩) (meth := k2m9) (c := k2c9) (by decide +kernel) rfl rfl rfl (by decide +kernel)
set_option maxRecDepth 65536 in
theorem w_c20 : (Jvm.Cond.code ({ cls := "ResponseTimeGate", name := "gcd", desc := "(II)I" } : Jvm.MethodName) prog_1_method_9_code (7 : Nat) (Option.some Jvm.ClassFile.FieldType.int)).before args0 about1 = true := code_word (m := ⟨2, 8⟩) (meth := k2m8) (c := k2c8) (by decide +kernel) rfl rfl rfl (by decide +kernel)
set_option maxRecDepth 65536 in
theorem w_c21 : (Jvm.Cond.code ({ cls := "ResponseTimeGate", name := "placeStaged", desc := "(I)V" } : Jvm.MethodName) prog_1_method_7_code (3 : Nat) (Option.none : Option Jvm.ClassFile.FieldType)).before args0 about1 = true := code_word (m := ⟨2, 6⟩) (meth := k2m6) (c := k2c6) (by decide +kernel) rfl rfl rfl (by decide +kernel)
set_option maxRecDepth 65536 in
theorem w_c22 : (Jvm.Cond.code ({ cls := "ResponseTimeGate", name := "analyze", desc := "(I)I" } : Jvm.MethodName) prog_1_method_11_code (5 : Nat) (Option.some Jvm.ClassFile.FieldType.int)).before args0 about1 = true := code_word (m := ⟨2, 10⟩) (meth := k2m10) (c := k2c10) (by decide +kernel) rfl rfl rfl (by decide +kernel)
set_option maxRecDepth 65536 in
theorem w_c23 : (Jvm.Cond.code ({ cls := "ResponseTimeGate", name := "computeCeilings", desc := "(I)V" } : Jvm.MethodName) prog_1_method_12_code (5 : Nat) (Option.none : Option Jvm.ClassFile.FieldType)).before args0 about1 = true := code_word (m := ⟨2, 11⟩) (meth := k2m11) (c := k2c11) (by decide +kernel) rfl rfl rfl (by decide +kernel)
set_option maxRecDepth 65536 in
theorem w_c24 : (Jvm.Cond.code ({ cls := "ResponseTimeGate", name := "blockingOf", desc := "(II)I" } : Jvm.MethodName) prog_1_method_13_code (8 : Nat) (Option.some Jvm.ClassFile.FieldType.int)).before args0 about1 = true := code_word (m := ⟨2, 12⟩) (meth := k2m12) (c := k2c12) (by decide +kernel) rfl rfl rfl (by decide +kernel)
set_option maxRecDepth 65536 in
theorem w_c25 : (Jvm.Cond.code ({ cls := "ResponseTimeGate", name := "responseOf", desc := "(III)I" } : Jvm.MethodName) prog_1_method_14_code (8 : Nat) (Option.some Jvm.ClassFile.FieldType.int)).before args0 about1 = true := code_word (m := ⟨2, 13⟩) (meth := k2m13) (c := k2c13) (by decide +kernel) rfl rfl rfl (by decide +kernel)
set_option maxRecDepth 65536 in
theorem w_c26 : (Jvm.Cond.code ({ cls := "ResponseTimeGate", name := "interference", desc := "(III)I" } : Jvm.MethodName) prog_1_method_15_code (8 : Nat) (Option.some Jvm.ClassFile.FieldType.int)).before args0 about1 = true := code_word (m := ⟨2, 14⟩) (meth := k2m14) (c := k2c14) (by decide +kernel) rfl rfl rfl (by decide +kernel)
set_option maxRecDepth 65536 in
theorem w_c27 : (Jvm.Cond.code ({ cls := "ResponseTimeGate", name := "adoptResults", desc := "(I)V" } : Jvm.MethodName) prog_1_method_8_code (3 : Nat) (Option.none : Option Jvm.ClassFile.FieldType)).before args0 about1 = true := code_word (m := ⟨2, 7⟩) (meth := k2m7) (c := k2c7) (by decide +kernel) rfl rfl rfl (by decide +kernel)
set_option maxRecDepth 65536 in
theorem w_c28 : (Jvm.Cond.code ({ cls := "ResponseTimeGateL6", name := "gcd", desc := "(II)I" } : Jvm.MethodName) method_3_code (4 : Nat) (Option.some Jvm.ClassFile.FieldType.int)).before args0 about1 = true := code_word (m := ⟨1, 2⟩) (meth := k1m2) (c := k1c2) (by decide +kernel) rfl rfl rfl (by decide +kernel)
set_option maxRecDepth 65536 in
theorem w_c29 : (Jvm.Cond.code ({ cls := "ResponseTimeGate", name := "run", desc := "(I)I" } : Jvm.MethodName) prog_1_method_24_code (4 : Nat) (Option.some Jvm.ClassFile.FieldType.int)).before args0 about1 = true := code_word (m := ⟨2, 22⟩) (meth := k2m22) (c := k2c22) (by decide +kernel) rfl rfl rfl (by decide +kernel)
set_option maxRecDepth 65536 in
theorem w_c30 : (Jvm.Cond.code ({ cls := "ResponseTimeGate", name := "tick", desc := "()V" } : Jvm.MethodName) prog_1_method_25_code (2 : Nat) (Option.none : Option Jvm.ClassFile.FieldType)).before args0 about1 = true := code_word (m := ⟨2, 23⟩) (meth := k2m23) (c := k2c23) (by decide +kernel) rfl rfl rfl (by decide +kernel)
set_option maxRecDepth 65536 in
theorem w_c31 : (Jvm.Cond.code ({ cls := "ResponseTimeGate", name := "releaseJobs", desc := "()V" } : Jvm.MethodName) prog_1_method_26_code (3 : Nat) (Option.none : Option Jvm.ClassFile.FieldType)).before args0 about1 = true := code_word (m := ⟨2, 24⟩) (meth := k2m24) (c := k2c24) (by decide +kernel) rfl rfl rfl (by decide +kernel)
set_option maxRecDepth 65536 in
theorem w_c32 : (Jvm.Cond.code ({ cls := "ResponseTimeGate", name := "pickRunning", desc := "()I" } : Jvm.MethodName) prog_1_method_28_code (7 : Nat) (Option.some Jvm.ClassFile.FieldType.int)).before args0 about1 = true := code_word (m := ⟨2, 26⟩) (meth := k2m26) (c := k2c26) (by decide +kernel) rfl rfl rfl (by decide +kernel)
set_option maxRecDepth 65536 in
theorem w_c33 : (Jvm.Cond.code ({ cls := "ResponseTimeGate", name := "activePriority", desc := "(I)I" } : Jvm.MethodName) prog_1_method_27_code (3 : Nat) (Option.some Jvm.ClassFile.FieldType.int)).before args0 about1 = true := code_word (m := ⟨2, 25⟩) (meth := k2m25) (c := k2c25) (by decide +kernel) rfl rfl rfl (by decide +kernel)
set_option maxRecDepth 65536 in
theorem w_c34 : (Jvm.Cond.code ({ cls := "ResponseTimeGate", name := "executeUnit", desc := "(I)V" } : Jvm.MethodName) prog_1_method_30_code (3 : Nat) (Option.none : Option Jvm.ClassFile.FieldType)).before args0 about1 = true := code_word (m := ⟨2, 28⟩) (meth := k2m28) (c := k2c28) (by decide +kernel) rfl rfl rfl (by decide +kernel)
set_option maxRecDepth 65536 in
theorem w_c35 : (Jvm.Cond.code ({ cls := "ResponseTimeGate", name := "takeResourceIfStart", desc := "(I)V" } : Jvm.MethodName) prog_1_method_29_code (3 : Nat) (Option.none : Option Jvm.ClassFile.FieldType)).before args0 about1 = true := code_word (m := ⟨2, 27⟩) (meth := k2m27) (c := k2c27) (by decide +kernel) rfl rfl rfl (by decide +kernel)
set_option maxRecDepth 65536 in
theorem w_c36 : (Jvm.Cond.code ({ cls := "ResponseTimeGate", name := "checkMisses", desc := "()V" } : Jvm.MethodName) prog_1_method_32_code (2 : Nat) (Option.none : Option Jvm.ClassFile.FieldType)).before args0 about1 = true := code_word (m := ⟨2, 30⟩) (meth := k2m30) (c := k2c30) (by decide +kernel) rfl rfl rfl (by decide +kernel)
set_option maxRecDepth 65536 in
theorem w_c37 : (Jvm.Cond.code ({ cls := "ResponseTimeGate", name := "completeJob", desc := "(I)V" } : Jvm.MethodName) prog_1_method_31_code (3 : Nat) (Option.none : Option Jvm.ClassFile.FieldType)).before args0 about1 = true := code_word (m := ⟨2, 29⟩) (meth := k2m29) (c := k2c29) (by decide +kernel) rfl rfl rfl (by decide +kernel)
set_option maxRecDepth 65536 in
theorem w_c38 : (Jvm.Cond.code ({ cls := "ResponseTimeGateL6", name := "setC", desc := "(JII)J" } : Jvm.MethodName) method_5_code (4 : Nat) (Option.some Jvm.ClassFile.FieldType.long)).before args0 about1 = true := code_word (m := ⟨1, 4⟩) (meth := k1m4) (c := k1c4) (by decide +kernel) rfl rfl rfl (by decide +kernel)
def codes1 : List Jvm.Cond := [Jvm.Cond.code x code maxLocals ret, Jvm.Cond.code ({ cls := "ResponseTimeGate", name := "<init>", desc := "(I)V" } : Jvm.MethodName) prog_1_method_1_code (4 : Nat) (Option.none : Option Jvm.ClassFile.FieldType), Jvm.Cond.code ({ cls := "java/lang/Object", name := "<init>", desc := "()V" } : Jvm.MethodName) object_method_1_code (1 : Nat) (Option.none : Option Jvm.ClassFile.FieldType), Jvm.Cond.code ({ cls := "ResponseTimeGate", name := "resetSim", desc := "()V" } : Jvm.MethodName) prog_1_method_23_code (2 : Nat) (Option.none : Option Jvm.ClassFile.FieldType), Jvm.Cond.code ({ cls := "ResponseTimeGate", name := "commitTask", desc := "()I" } : Jvm.MethodName) prog_1_method_6_code (4 : Nat) (Option.some Jvm.ClassFile.FieldType.int), Jvm.Cond.code ({ cls := "ResponseTimeGate", name := "misses", desc := "()I" } : Jvm.MethodName) prog_1_method_36_code (1 : Nat) (Option.some Jvm.ClassFile.FieldType.int), Jvm.Cond.code ({ cls := "ResponseTimeGate", name := "taskCount", desc := "()I" } : Jvm.MethodName) prog_1_method_17_code (1 : Nat) (Option.some Jvm.ClassFile.FieldType.int), Jvm.Cond.code ({ cls := "ResponseTimeGate", name := "hyperperiod", desc := "()I" } : Jvm.MethodName) prog_1_method_21_code (1 : Nat) (Option.some Jvm.ClassFile.FieldType.int), Jvm.Cond.code ({ cls := "ResponseTimeGate", name := "failedTask", desc := "()I" } : Jvm.MethodName) prog_1_method_22_code (1 : Nat) (Option.some Jvm.ClassFile.FieldType.int), Jvm.Cond.code ({ cls := "ResponseTimeGate", name := "time", desc := "()I" } : Jvm.MethodName) prog_1_method_33_code (1 : Nat) (Option.some Jvm.ClassFile.FieldType.int), Jvm.Cond.code ({ cls := "ResponseTimeGate", name := "bound", desc := "(I)I" } : Jvm.MethodName) prog_1_method_18_code (2 : Nat) (Option.some Jvm.ClassFile.FieldType.int), Jvm.Cond.code ({ cls := "ResponseTimeGate", name := "admitted", desc := "(I)Z" } : Jvm.MethodName) prog_1_method_16_code (2 : Nat) (Option.some Jvm.ClassFile.FieldType.boolean), Jvm.Cond.code ({ cls := "ResponseTimeGate", name := "jobsDone", desc := "(I)I" } : Jvm.MethodName) prog_1_method_35_code (2 : Nat) (Option.some Jvm.ClassFile.FieldType.int), Jvm.Cond.code ({ cls := "ResponseTimeGate", name := "ceiling", desc := "(I)I" } : Jvm.MethodName) prog_1_method_20_code (2 : Nat) (Option.some Jvm.ClassFile.FieldType.int), Jvm.Cond.code ({ cls := "ResponseTimeGateL6", name := "getC", desc := "(JI)I" } : Jvm.MethodName) method_4_code (3 : Nat) (Option.some Jvm.ClassFile.FieldType.int), Jvm.Cond.code ({ cls := "ResponseTimeGate", name := "addSection", desc := "(III)I" } : Jvm.MethodName) prog_1_method_4_code (4 : Nat) (Option.some Jvm.ClassFile.FieldType.int), Jvm.Cond.code ({ cls := "ResponseTimeGate", name := "beginTask", desc := "(IIII)I" } : Jvm.MethodName) prog_1_method_2_code (6 : Nat) (Option.some Jvm.ClassFile.FieldType.int), Jvm.Cond.code ({ cls := "ResponseTimeGate", name := "priorityTaken", desc := "(I)Z" } : Jvm.MethodName) prog_1_method_3_code (3 : Nat) (Option.some Jvm.ClassFile.FieldType.boolean), Jvm.Cond.code ({ cls := "ResponseTimeGate", name := "overlapsStaged", desc := "(II)Z" } : Jvm.MethodName) prog_1_method_5_code (6 : Nat) (Option.some Jvm.ClassFile.FieldType.boolean), Jvm.Cond.code ({ cls := "ResponseTimeGate", name := "lcmWith", desc := "(II)I" } : Jvm.MethodName) prog_1_method_10_code (4 : Nat) (Option.some Jvm.ClassFile.FieldType.int), Jvm.Cond.code ({ cls := "ResponseTimeGate", name := "gcd", desc := "(II)I" } : Jvm.MethodName) prog_1_method_9_code (7 : Nat) (Option.some Jvm.ClassFile.FieldType.int), Jvm.Cond.code ({ cls := "ResponseTimeGate", name := "placeStaged", desc := "(I)V" } : Jvm.MethodName) prog_1_method_7_code (3 : Nat) (Option.none : Option Jvm.ClassFile.FieldType), Jvm.Cond.code ({ cls := "ResponseTimeGate", name := "analyze", desc := "(I)I" } : Jvm.MethodName) prog_1_method_11_code (5 : Nat) (Option.some Jvm.ClassFile.FieldType.int), Jvm.Cond.code ({ cls := "ResponseTimeGate", name := "computeCeilings", desc := "(I)V" } : Jvm.MethodName) prog_1_method_12_code (5 : Nat) (Option.none : Option Jvm.ClassFile.FieldType), Jvm.Cond.code ({ cls := "ResponseTimeGate", name := "blockingOf", desc := "(II)I" } : Jvm.MethodName) prog_1_method_13_code (8 : Nat) (Option.some Jvm.ClassFile.FieldType.int), Jvm.Cond.code ({ cls := "ResponseTimeGate", name := "responseOf", desc := "(III)I" } : Jvm.MethodName) prog_1_method_14_code (8 : Nat) (Option.some Jvm.ClassFile.FieldType.int), Jvm.Cond.code ({ cls := "ResponseTimeGate", name := "interference", desc := "(III)I" } : Jvm.MethodName) prog_1_method_15_code (8 : Nat) (Option.some Jvm.ClassFile.FieldType.int), Jvm.Cond.code ({ cls := "ResponseTimeGate", name := "adoptResults", desc := "(I)V" } : Jvm.MethodName) prog_1_method_8_code (3 : Nat) (Option.none : Option Jvm.ClassFile.FieldType), Jvm.Cond.code ({ cls := "ResponseTimeGateL6", name := "gcd", desc := "(II)I" } : Jvm.MethodName) method_3_code (4 : Nat) (Option.some Jvm.ClassFile.FieldType.int), Jvm.Cond.code ({ cls := "ResponseTimeGate", name := "run", desc := "(I)I" } : Jvm.MethodName) prog_1_method_24_code (4 : Nat) (Option.some Jvm.ClassFile.FieldType.int), Jvm.Cond.code ({ cls := "ResponseTimeGate", name := "tick", desc := "()V" } : Jvm.MethodName) prog_1_method_25_code (2 : Nat) (Option.none : Option Jvm.ClassFile.FieldType), Jvm.Cond.code ({ cls := "ResponseTimeGate", name := "releaseJobs", desc := "()V" } : Jvm.MethodName) prog_1_method_26_code (3 : Nat) (Option.none : Option Jvm.ClassFile.FieldType), Jvm.Cond.code ({ cls := "ResponseTimeGate", name := "pickRunning", desc := "()I" } : Jvm.MethodName) prog_1_method_28_code (7 : Nat) (Option.some Jvm.ClassFile.FieldType.int), Jvm.Cond.code ({ cls := "ResponseTimeGate", name := "activePriority", desc := "(I)I" } : Jvm.MethodName) prog_1_method_27_code (3 : Nat) (Option.some Jvm.ClassFile.FieldType.int), Jvm.Cond.code ({ cls := "ResponseTimeGate", name := "executeUnit", desc := "(I)V" } : Jvm.MethodName) prog_1_method_30_code (3 : Nat) (Option.none : Option Jvm.ClassFile.FieldType), Jvm.Cond.code ({ cls := "ResponseTimeGate", name := "takeResourceIfStart", desc := "(I)V" } : Jvm.MethodName) prog_1_method_29_code (3 : Nat) (Option.none : Option Jvm.ClassFile.FieldType), Jvm.Cond.code ({ cls := "ResponseTimeGate", name := "checkMisses", desc := "()V" } : Jvm.MethodName) prog_1_method_32_code (2 : Nat) (Option.none : Option Jvm.ClassFile.FieldType), Jvm.Cond.code ({ cls := "ResponseTimeGate", name := "completeJob", desc := "(I)V" } : Jvm.MethodName) prog_1_method_31_code (3 : Nat) (Option.none : Option Jvm.ClassFile.FieldType), Jvm.Cond.code ({ cls := "ResponseTimeGateL6", name := "setC", desc := "(JII)J" } : Jvm.MethodName) method_5_code (4 : Nat) (Option.some Jvm.ClassFile.FieldType.long)]
set_option maxRecDepth 65536 in
theorem codes_eq : words1.filter isCode = codes1 := rfl
theorem w_codes : ∀ c ∈ words1.filter isCode, c.before args0 about1 = true := by
  rw [codes_eq]
  intro c hc
  simp only [codes1, List.mem_cons, List.not_mem_nil, or_false] at hc
  rcases hc with rfl | rfl | rfl | rfl | rfl | rfl | rfl | rfl | rfl | rfl | rfl | rfl | rfl | rfl | rfl | rfl | rfl | rfl | rfl | rfl | rfl | rfl | rfl | rfl | rfl | rfl | rfl | rfl | rfl | rfl | rfl | rfl | rfl | rfl | rfl | rfl | rfl | rfl | rfl
  · exact w_c0
  · exact w_c1
  · exact w_c2
  · exact w_c3
  · exact w_c4
  · exact w_c5
  · exact w_c6
  · exact w_c7
  · exact w_c8
  · exact w_c9
  · exact w_c10
  · exact w_c11
  · exact w_c12
  · exact w_c13
  · exact w_c14
  · exact w_c15
  · exact w_c16
  · exact w_c17
  · exact w_c18
  · exact w_c19
  · exact w_c20
  · exact w_c21
  · exact w_c22
  · exact w_c23
  · exact w_c24
  · exact w_c25
  · exact w_c26
  · exact w_c27
  · exact w_c28
  · exact w_c29
  · exact w_c30
  · exact w_c31
  · exact w_c32
  · exact w_c33
  · exact w_c34
  · exact w_c35
  · exact w_c36
  · exact w_c37
  · exact w_c38
set_option maxRecDepth 65536 in
theorem w_t1 : (words1.take 24).all (fun c => isCode c || c.before args0 about1) = true := by decide +kernel
set_option maxRecDepth 65536 in
theorem w_t2 : ((words1.drop 24).take 24).all (fun c => isCode c || c.before args0 about1) = true := by decide +kernel
set_option maxRecDepth 65536 in
theorem w_t3 : (((words1.drop 24).drop 24).take 24).all (fun c => isCode c || c.before args0 about1) = true := by decide +kernel
set_option maxRecDepth 65536 in
theorem w_t4 : ((((words1.drop 24).drop 24).drop 24).take 24).all (fun c => isCode c || c.before args0 about1) = true := by decide +kernel
set_option maxRecDepth 65536 in
theorem w_t5 : (((((words1.drop 24).drop 24).drop 24).drop 24).take 24).all (fun c => isCode c || c.before args0 about1) = true := by decide +kernel
set_option maxRecDepth 65536 in
theorem w_t6 : ((((((words1.drop 24).drop 24).drop 24).drop 24).drop 24).take 24).all (fun c => isCode c || c.before args0 about1) = true := by decide +kernel
set_option maxRecDepth 65536 in
theorem w_t7 : (((((((words1.drop 24).drop 24).drop 24).drop 24).drop 24).drop 24).take 24).all (fun c => isCode c || c.before args0 about1) = true := by decide +kernel
set_option maxRecDepth 65536 in
theorem w_t8 : ((((((((words1.drop 24).drop 24).drop 24).drop 24).drop 24).drop 24).drop 24).take 24).all (fun c => isCode c || c.before args0 about1) = true := by decide +kernel
set_option maxRecDepth 65536 in
theorem w_t9 : (((((((((words1.drop 24).drop 24).drop 24).drop 24).drop 24).drop 24).drop 24).drop 24).take 24).all (fun c => isCode c || c.before args0 about1) = true := by decide +kernel
set_option maxRecDepth 65536 in
theorem w_t10 : (((((((((words1.drop 24).drop 24).drop 24).drop 24).drop 24).drop 24).drop 24).drop 24).drop 24).all (fun c => isCode c || c.before args0 about1) = true := by decide +kernel
theorem w_tables : (allAtoms (Jvm.Cond.code x code maxLocals ret :: tables_1)).before args0 about1 = true := by
  rw [allAtoms_all]
  show words1.all (fun c => c.before args0 about1) = true
  refine all_split ?_ w_codes
  rw [← List.take_append_drop 24 words1, List.all_append, w_t1, ← List.take_append_drop 24 (words1.drop 24), List.all_append, w_t2, ← List.take_append_drop 24 ((words1.drop 24).drop 24), List.all_append, w_t3, ← List.take_append_drop 24 (((words1.drop 24).drop 24).drop 24), List.all_append, w_t4, ← List.take_append_drop 24 ((((words1.drop 24).drop 24).drop 24).drop 24), List.all_append, w_t5, ← List.take_append_drop 24 (((((words1.drop 24).drop 24).drop 24).drop 24).drop 24), List.all_append, w_t6, ← List.take_append_drop 24 ((((((words1.drop 24).drop 24).drop 24).drop 24).drop 24).drop 24), List.all_append, w_t7, ← List.take_append_drop 24 (((((((words1.drop 24).drop 24).drop 24).drop 24).drop 24).drop 24).drop 24), List.all_append, w_t8, ← List.take_append_drop 24 ((((((((words1.drop 24).drop 24).drop 24).drop 24).drop 24).drop 24).drop 24).drop 24), List.all_append, w_t9, w_t10]
  rfl
set_option maxRecDepth 65536 in
theorem w_rest : rest_1_c.before args0 about1 = true := by decide +kernel
set_option maxRecDepth 65536 in
theorem w_case : (Jvm.Cond.and given_1 narrow_1).before args0 about1 = true := by decide +kernel
theorem w_applies : (headSpec (Jvm.Cond.code x code maxLocals ret :: tables_1) room_1).applies x e0.platform about1 = true :=
  (Spec.applies_iff w_frames).mpr ⟨w_running, w_runnable, w_alone, w_named, w_hears, w_ripe, w_room, w_tables⟩
theorem atStart : AtStart classFile x code maxLocals ret World_1 tables_1 room_1 Calls_1 rest_1 Pre_1 launch0 p0 e0 about1 theMethod args0 below0 :=
  ⟨lists_1, trivial, launch0.admits_env _ _ _, launch0.least_env, fairChoices_fair.cas, fairChoices_fair.clock, w_frames, w_args, w_heap, w_applies, trivial, w_rest, w_case⟩
end start1
theorem witness_1 : WitnessClaimed_1 := ⟨start1.p0, start1.e0, start1.about1, start1.theMethod, start1.args0, start1.below0, start1.atStart⟩
end Jvm.Pilot.@@N@@
