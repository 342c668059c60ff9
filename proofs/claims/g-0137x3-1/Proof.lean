import JvmDerived
import JvmDerived.Pilot.@@N@@Statement
import JvmDerived.Pilot.@@N@@Code
set_option linter.unusedVariables false
set_option linter.unusedSimpArgs false
namespace Jvm.RoadKit
open Sem ClassFile Op Lib Jvm.Stand Jvm.Free Jvm.LawKit
section New
variable {p : Program} {l : Launch} {e : Env} {R : Room} {s : State} {m : MethodId} {args : Array Value} {below : List Frame} {meth : Method} {c : Code} {T : State} {locs : List Loc} {cells slots : Nat}
theorem retI (X : Stand p l e R s m args below meth c T locs cells slots) (hx : p.tables.exec = Jvm.exec) {pc : Nat} {Ls : Array Slot} {z : Int32} {rest : List Value} (hret : meth.sig.returnType = some .int) (hd : decode c.code pc = .ok (.ireturn, 1)) {fs : List Frame}
    (hl : ∀ (f : JFrame) (acts : List Action), f.method = m → f.locked = none → f.entered = [] → (doReturn e (T.setTop f) acts (some (.int z))).1 = T.setFrames fs) : Steps p.tables e below (T.setTop (mkF m pc Ls (.int z :: rest))) (T.setFrames fs) := by
  have hm' : T.vm.method? m = some meth := X.method'
  have hn : narrow .int (.int z) = .int z := rfl
  show Steps p.tables e below (T.setTop { method := m, pc := pc, locals := Ls, stack := _ :: rest, locked := none }) _
  jvm_step X.here [X.here.top, hx, hd, hm', hret, hn]
  first | (intro acts; rw [hl _ acts rfl rfl rfl]) | rw [hl _ _ rfl rfl rfl]
  exact Steps.refl _
end New
end Jvm.RoadKit
namespace Jvm.Pilot.@@N@@
open Jvm Jvm.ClassFile Sem Op Lib Jvm.Free Jvm.Stand Jvm.LawKit Jvm.RoadKit Bundle Jvm.Pilot.@@N@@.Jvm.D
/- records: scalars, int-like arrays, long arrays -/
abbrev Rec : Type := (Nat → Int32) × (Nat → Int32 → Int32) × (Nat → Int32 → Int64)
def zrec : Rec := (fun _ => 0, fun _ _ => 0, fun _ _ => 0)
def gI (ob : Rec) (k : Nat) : Int32 := ob.1 k
def gA (ob : Rec) (k : Nat) (i : Int32) : Int32 := ob.2.1 k i
def gJ (ob : Rec) (k : Nat) (i : Int32) : Int64 := ob.2.2 k i
def sI (ob : Rec) (k : Nat) (v : Int32) : Rec := (fun j => if j = k then v else ob.1 j, ob.2)
def sA (ob : Rec) (k : Nat) (i v : Int32) : Rec := (ob.1, fun j x => if j = k ∧ x = i then v else ob.2.1 j x, ob.2.2)
def sJ (ob : Rec) (k : Nat) (i : Int32) (v : Int64) : Rec := (ob.1, ob.2.1, fun j x => if j = k ∧ x = i then v else ob.2.2 j x)
def chk {γ : Type} (n i : Int32) (A : Option γ) : Option γ := if i < 0 then none else if i < n then A else none
def dvz {γ : Type} (y : Int32) (A : Option γ) : Option γ := if y = 0 then none else A
def bind2 {α β γ : Type} (o : Option (α × β)) (f : α → β → Option γ) : Option γ := o.bind fun q => f q.1 q.2
def bind3 {α β γ δ : Type} (o : Option (α × β × δ)) (f : α → β → δ → Option γ) : Option γ := o.bind fun q => f q.1 q.2.1 q.2.2
theorem ite_el {c : Prop} [Decidable c] {γ : Type} {A B : Option γ} {r : γ} {Q : Prop} (h : (if c then A else B) = some r) (t : c → A = some r → Q) (e : ¬ c → B = some r → Q) : Q := by
  by_cases hc : c
  · rw [if_pos hc] at h; exact t hc h
  · rw [if_neg hc] at h; exact e hc h
theorem bind_el {α γ : Type} {o : Option α} {f : α → Option γ} {r : γ} {Q : Prop} (h : o.bind f = some r) (k : ∀ x, o = some x → f x = some r → Q) : Q := by
  cases o with
  | none => cases h
  | some x => exact k x rfl h
theorem bind2_el {α β γ : Type} {o : Option (α × β)} {f : α → β → Option γ} {r : γ} {Q : Prop} (h : bind2 o f = some r) (k : ∀ x y, o = some (x, y) → f x y = some r → Q) : Q := by
  rcases o with _ | ⟨x, y⟩
  · cases h
  · exact k x y rfl h
theorem bind3_el {α β γ δ : Type} {o : Option (α × β × δ)} {f : α → β → δ → Option γ} {r : γ} {Q : Prop} (h : bind3 o f = some r) (k : ∀ x y z, o = some (x, y, z) → f x y z = some r → Q) : Q := by
  rcases o with _ | ⟨x, y, z⟩
  · cases h
  · exact k x y z rfl h
theorem chk_el {γ : Type} {n i : Int32} {A : Option γ} {r : γ} {Q : Prop} (h : chk n i A = some r) (k : (¬ i < 0 ∧ i < n) → A = some r → Q) : Q := by
  unfold chk at h
  by_cases h0 : i < 0
  · rw [if_pos h0] at h; cases h
  · rw [if_neg h0] at h
    by_cases h1 : i < n
    · rw [if_pos h1] at h; exact k ⟨h0, h1⟩ h
    · rw [if_neg h1] at h; cases h
theorem dvz_el {γ : Type} {y : Int32} {A : Option γ} {r : γ} {Q : Prop} (h : dvz y A = some r) (k : y ≠ 0 → A = some r → Q) : Q := by
  unfold dvz at h
  by_cases h0 : y = 0
  · rw [if_pos h0] at h; cases h
  · rw [if_neg h0] at h; exact k h0 h
def All {α : Type} (p : α → Prop) : List α → Prop
  | [] => True
  | x :: l => p x ∧ All p l
theorem All.mem {α : Type} {p : α → Prop} : ∀ {l : List α}, All p l → ∀ {x : α}, x ∈ l → p x
  | [], _, _, h => nomatch h
  | _ :: _, H, _, h => (List.mem_cons.mp h).elim (fun e => e ▸ H.1) (fun e => All.mem H.2 e)
def el (ty : FieldType) (ob : Rec) (k : Nat) (j : Int32) : Value := match ty with
  | .long => .long (ob.2.2 k j)
  | _ => .int (ob.2.1 k j)
def aD (ty : FieldType) : String := match ty with
  | .int => "[I"
  | .boolean => "[Z"
  | _ => "[J"
abbrev Cls : Type := String × List (String × String) × List (String × FieldType × Int32)
abbrev mem1 (k : Nat) {d : Jvm.Cond} (h : tables_1[k]? = some d) : d ∈ tables_1 := List.mem_of_getElem? h
abbrev sOk (C : String) (nd : String × String) : Prop := (Jvm.Cond.lays C C nd.1 nd.2 ∈ tables_1 ∨ Jvm.Cond.laysFinal C C nd.1 nd.2 ∈ tables_1) ∧ (nd.2 = "I" ∨ nd.2 = "Z")
abbrev aOk (C : String) (t : String × FieldType × Int32) : Prop := (Jvm.Cond.lays C C t.1 (aD t.2.1) ∈ tables_1 ∨ Jvm.Cond.laysFinal C C t.1 (aD t.2.1) ∈ tables_1) ∧ (t.2.1 = .int ∨ t.2.1 = .boolean ∨ t.2.1 = .long) ∧ ¬ t.2.2 < 0
def K : Cls := ("QueryRewriter", [("tyScan", "I"), ("tySelect", "I"), ("tyProject", "I"), ("tyJoin", "I"), ("tyView", "I"), ("plScan", "I"), ("plJoin", "I"), ("rowCap", "I"), ("weightLimit", "I"), ("nodeN", "I"), ("resW", "I"), ("resN", "I")], [("tCols", .int, 4), ("tRows", .int, 4), ("tCells", .int, 96), ("pOp", .int, 4), ("pA", .int, 4), ("pB", .int, 4), ("pFl", .int, 4), ("nType", .int, 32), ("nWidth", .int, 32), ("nX", .int, 32), ("nY", .int, 32), ("nKind", .int, 32), ("nPacked", .int, 32), ("nAtStart", .int, 32), ("nAtCnt", .int, 32), ("aOp", .int, 64), ("aA", .int, 64), ("aB", .int, 64), ("aFl", .int, 64), ("viewNode", .int, 8), ("weight", .int, 32), ("reach", .boolean, 32), ("bag", .int, 16384), ("bagCnt", .int, 32), ("rowBuf", .int, 16), ("res", .int, 512), ("plType", .int, 16), ("plTable", .int, 16), ("plLeft", .int, 16), ("plRight", .int, 16), ("plKind", .int, 16), ("plLen", .int, 16), ("plMap", .int, 128), ("needMask", .int, 16), ("plEmpty", .boolean, 16), ("head", .int, 32), ("qOp", .int, 512), ("qA", .int, 512), ("qB", .int, 512), ("qFl", .int, 512), ("qNext", .int, 512), ("stNode", .int, 64), ("stPhase", .int, 64), ("resStack", .int, 64), ("tmpMap", .int, 8)])
theorem kS : All (sOk K.1) K.2.1 := ⟨⟨Or.inr (mem1 10 rfl), Or.inl rfl⟩, ⟨Or.inr (mem1 12 rfl), Or.inl rfl⟩, ⟨Or.inr (mem1 14 rfl), Or.inl rfl⟩, ⟨Or.inr (mem1 16 rfl), Or.inl rfl⟩, ⟨Or.inr (mem1 18 rfl), Or.inl rfl⟩, ⟨Or.inr (mem1 20 rfl), Or.inl rfl⟩, ⟨Or.inr (mem1 22 rfl), Or.inl rfl⟩, ⟨Or.inl (mem1 120 rfl), Or.inl rfl⟩, ⟨Or.inl (mem1 122 rfl), Or.inl rfl⟩, ⟨Or.inl (mem1 156 rfl), Or.inl rfl⟩, ⟨Or.inl (mem1 129 rfl), Or.inl rfl⟩, ⟨Or.inl (mem1 136 rfl), Or.inl rfl⟩, trivial⟩
theorem kA : All (aOk K.1) K.2.2 := ⟨⟨Or.inl (mem1 25 rfl), Or.inl rfl, by decide⟩, ⟨Or.inl (mem1 27 rfl), Or.inl rfl, by decide⟩, ⟨Or.inl (mem1 29 rfl), Or.inl rfl, by decide⟩, ⟨Or.inl (mem1 31 rfl), Or.inl rfl, by decide⟩, ⟨Or.inl (mem1 33 rfl), Or.inl rfl, by decide⟩, ⟨Or.inl (mem1 35 rfl), Or.inl rfl, by decide⟩, ⟨Or.inl (mem1 37 rfl), Or.inl rfl, by decide⟩, ⟨Or.inl (mem1 39 rfl), Or.inl rfl, by decide⟩, ⟨Or.inl (mem1 41 rfl), Or.inl rfl, by decide⟩, ⟨Or.inl (mem1 43 rfl), Or.inl rfl, by decide⟩, ⟨Or.inl (mem1 45 rfl), Or.inl rfl, by decide⟩, ⟨Or.inl (mem1 47 rfl), Or.inl rfl, by decide⟩, ⟨Or.inl (mem1 49 rfl), Or.inl rfl, by decide⟩, ⟨Or.inl (mem1 51 rfl), Or.inl rfl, by decide⟩, ⟨Or.inl (mem1 53 rfl), Or.inl rfl, by decide⟩, ⟨Or.inl (mem1 55 rfl), Or.inl rfl, by decide⟩, ⟨Or.inl (mem1 57 rfl), Or.inl rfl, by decide⟩, ⟨Or.inl (mem1 59 rfl), Or.inl rfl, by decide⟩, ⟨Or.inl (mem1 61 rfl), Or.inl rfl, by decide⟩, ⟨Or.inl (mem1 63 rfl), Or.inl rfl, by decide⟩, ⟨Or.inl (mem1 65 rfl), Or.inl rfl, by decide⟩, ⟨Or.inl (mem1 68 rfl), Or.inr (Or.inl rfl), by decide⟩, ⟨Or.inl (mem1 70 rfl), Or.inl rfl, by decide⟩, ⟨Or.inl (mem1 72 rfl), Or.inl rfl, by decide⟩, ⟨Or.inl (mem1 74 rfl), Or.inl rfl, by decide⟩, ⟨Or.inl (mem1 76 rfl), Or.inl rfl, by decide⟩, ⟨Or.inl (mem1 78 rfl), Or.inl rfl, by decide⟩, ⟨Or.inl (mem1 80 rfl), Or.inl rfl, by decide⟩, ⟨Or.inl (mem1 82 rfl), Or.inl rfl, by decide⟩, ⟨Or.inl (mem1 84 rfl), Or.inl rfl, by decide⟩, ⟨Or.inl (mem1 86 rfl), Or.inl rfl, by decide⟩, ⟨Or.inl (mem1 88 rfl), Or.inl rfl, by decide⟩, ⟨Or.inl (mem1 90 rfl), Or.inl rfl, by decide⟩, ⟨Or.inl (mem1 92 rfl), Or.inl rfl, by decide⟩, ⟨Or.inl (mem1 94 rfl), Or.inr (Or.inl rfl), by decide⟩, ⟨Or.inl (mem1 96 rfl), Or.inl rfl, by decide⟩, ⟨Or.inl (mem1 98 rfl), Or.inl rfl, by decide⟩, ⟨Or.inl (mem1 100 rfl), Or.inl rfl, by decide⟩, ⟨Or.inl (mem1 102 rfl), Or.inl rfl, by decide⟩, ⟨Or.inl (mem1 104 rfl), Or.inl rfl, by decide⟩, ⟨Or.inl (mem1 106 rfl), Or.inl rfl, by decide⟩, ⟨Or.inl (mem1 108 rfl), Or.inl rfl, by decide⟩, ⟨Or.inl (mem1 110 rfl), Or.inl rfl, by decide⟩, ⟨Or.inl (mem1 112 rfl), Or.inl rfl, by decide⟩, ⟨Or.inl (mem1 114 rfl), Or.inl rfl, by decide⟩, trivial⟩
abbrev kN : Nat := 64
theorem kI : Jvm.Cond.instantiable K.1 kN ∈ tables_1 := mem1 1 rfl
theorem kZ : Jvm.Cond.initialized K.1 ∈ tables_1 := mem1 2 rfl
theorem kNm : (K.2.1.map (·.1) ++ K.2.2.map (·.1)).Nodup := by decide +kernel
theorem nm_ss {k k' : Nat} {nd nd' : String × String} (h : K.2.1[k]? = some nd) (h' : K.2.1[k']? = some nd') (ne : k ≠ k') : nd.1 ≠ nd'.1 := fun e => by
  have l := (List.getElem?_eq_some_iff.mp h).1
  have l' := (List.getElem?_eq_some_iff.mp h').1
  refine ne ((List.getElem?_inj (l := K.2.1.map (·.1) ++ K.2.2.map (·.1)) (i := k) (j := k') (by simp; omega) kNm).mp ?_)
  rw [List.getElem?_append_left (by simpa using l), List.getElem?_append_left (by simpa using l'), List.getElem?_map, List.getElem?_map, h, h']
  simp [e]
theorem nm_aa {k k' : Nat} {t t' : String × FieldType × Int32} (h : K.2.2[k]? = some t) (h' : K.2.2[k']? = some t') (ne : k ≠ k') : t.1 ≠ t'.1 := fun e => by
  have l := (List.getElem?_eq_some_iff.mp h).1
  have l' := (List.getElem?_eq_some_iff.mp h').1
  have q := (List.getElem?_inj (l := K.2.1.map (·.1) ++ K.2.2.map (·.1)) (i := K.2.1.length + k) (j := K.2.1.length + k') (by simp; omega) kNm).mp (by
    rw [List.getElem?_append_right (by simp), List.getElem?_append_right (by simp)]
    simp [h, h', e])
  omega
theorem nm_sa {k k' : Nat} {nd : String × String} {t : String × FieldType × Int32} (h : K.2.1[k]? = some nd) (h' : K.2.2[k']? = some t) : nd.1 ≠ t.1 := fun e => by
  have l := (List.getElem?_eq_some_iff.mp h).1
  have l' := (List.getElem?_eq_some_iff.mp h').1
  have q := (List.getElem?_inj (l := K.2.1.map (·.1) ++ K.2.2.map (·.1)) (i := k) (j := K.2.1.length + k') (by simp; omega) kNm).mp (by
    rw [List.getElem?_append_left (by simpa using l), List.getElem?_append_right (by simp)]
    simp [h, h', e])
  omega
abbrev Ctx : Type := Launch × State × Nat × Array Value
def Ok (C : Ctx) : Prop := ∀ d ∈ tables_1, d.before C.2.2.2 C.2.1 = true
def ArrAt (Z : State) (h : Heap) (b : Nat) (ty : FieldType) (len : Int32) (v : Int32 → Value) : Prop := ∃ cl : Cell, Arr Z h b cl ty ∧ cl.slots.size = len.toNatClampNeg ∧ ∀ j : Int32, ¬ j < 0 → j < len → cl.slots[j.toNatClampNeg]? = some (v j)
def ObjAt (Z : State) (h : Heap) (a : Nat) (q : Nat) (ob : Rec) : Prop :=
  Exa Z h a K.1 ∧ (∀ k nd, K.2.1[k]? = some nd → Fld Z h a K.1 nd.1 nd.2 (.int (ob.1 k))) ∧
  (∀ k t, K.2.2[k]? = some t → k < q → Fld Z h a K.1 t.1 (aD t.2.1) (.ref (a + 1 + k)) ∧ ArrAt Z h (a + 1 + k) t.2.1 t.2.2 (el t.2.1 ob k)) ∧
  (∀ k t, K.2.2[k]? = some t → q ≤ k → Fld Z h a K.1 t.1 (aD t.2.1) .null)
abbrev AH : Type := Nat × List (Nat × Nat × Rec)
def Rep (Z : State) (n0 : Nat) (h : Heap) (G : AH) : Prop :=
  h.size = G.1 ∧ Old Z n0 h ∧ (∀ x ∈ G.2, n0 ≤ x.1 ∧ x.1 + x.2.1 < G.1 ∧ ObjAt Z h x.1 x.2.1 x.2.2) ∧ G.2.Pairwise (fun x y => x.1 + x.2.1 < y.1 ∨ y.1 + y.2.1 < x.1)
section Facts
variable {Z : State} {h h' : Heap} {a b : Nat} {q k n0 top : Nat} {ob ob' : Rec} {nd : String × String} {t : String × FieldType × Int32} {a0 : Array Value} {sl : Nat} {v : Value} {H : List (Nat × Nat × Rec)} {G : AH}
theorem fld_fr {C n d : String} (e : h'[a]? = h[a]?) (F : Fld Z h a C n d v) : Fld Z h' a C n d v := by
  obtain ⟨cell, cf, k, i, f, h1, r⟩ := F; exact ⟨cell, cf, k, i, f, e.trans h1, r⟩
theorem exa_fr {C : String} (e : h'[a]? = h[a]?) (F : Exa Z h a C) : Exa Z h' a C := by
  obtain ⟨cell, k, h1, r⟩ := F; exact ⟨cell, k, e.trans h1, r⟩
theorem arrAt_fr {ty : FieldType} {len : Int32} {w : Int32 → Value} (e : h'[a]? = h[a]?) (F : ArrAt Z h a ty len w) : ArrAt Z h' a ty len w := by
  obtain ⟨cl, A, r⟩ := F; exact ⟨cl, ⟨e.trans A.1, A.2⟩, r⟩
theorem ObjAt.frame (e : ∀ b, a ≤ b → b ≤ a + q → h'[b]? = h[b]?) (F : ObjAt Z h a q ob) : ObjAt Z h' a q ob := by
  have e0 := e a (Nat.le_refl _) (Nat.le_add_right _ _)
  refine ⟨exa_fr e0 F.1, fun k nd hk => fld_fr e0 (F.2.1 k nd hk), fun k t hk hq => ⟨fld_fr e0 (F.2.2.1 k t hk hq).1, arrAt_fr (e _ (by omega) (by omega)) (F.2.2.1 k t hk hq).2⟩, fun k t hk hq => fld_fr e0 (F.2.2.2 k t hk hq)⟩
theorem ObjAt.ext (E : Ext h h') (F : ObjAt Z h a q ob) : ObjAt Z h' a q ob := by
  refine ⟨F.1.ext E, fun k nd hk => (F.2.1 k nd hk).ext E, fun k t hk hq => ⟨(F.2.2.1 k t hk hq).1.ext E, ?_⟩, fun k t hk hq => (F.2.2.2 k t hk hq).ext E⟩
  obtain ⟨cl, A, r⟩ := (F.2.2.1 k t hk hq).2; exact ⟨cl, A.ext E, r⟩
theorem wr_ne (W : Wr h h' a sl v) (ne : b ≠ a) : h'[b]? = h[b]? := by
  obtain ⟨cell, -, -, -, rfl⟩ := W; exact Array.getElem?_setIfInBounds_ne (Ne.symm ne)
theorem laidS (hw : ∀ d ∈ tables_1, d.before a0 Z = true) (hk : K.2.1[k]? = some nd) : Laid Z a0 K.1 K.1 nd.1 nd.2 := ((All.mem kS (List.mem_of_getElem? hk)).1).imp (hw _) (hw _)
theorem laidA (hw : ∀ d ∈ tables_1, d.before a0 Z = true) (hk : K.2.2[k]? = some t) : Laid Z a0 K.1 K.1 t.1 (aD t.2.1) := ((All.mem kA (List.mem_of_getElem? hk)).1).imp (hw _) (hw _)
theorem pfS (hk : K.2.1[k]? = some nd) : ∃ ty, parseFieldDescriptor nd.2 = some ty := by
  rcases (All.mem kS (List.mem_of_getElem? hk)).2 with e | e <;> rw [e]
  · exact ⟨.int, by decide⟩
  · exact ⟨.boolean, by decide⟩
theorem pfA (hk : K.2.2[k]? = some t) : parseFieldDescriptor (aD t.2.1) = some (.array t.2.1) := by
  rcases (All.mem kA (List.mem_of_getElem? hk)).2.1 with e | e | e <;> rw [e] <;> decide
theorem ObjAt.putI {x : Int32} (hw : ∀ d ∈ tables_1, d.before a0 Z = true) (F : ObjAt Z h a q ob) (hk : K.2.1[k]? = some nd) (W : Wr h h' a (Jvm.RoadKit.slotOf Z K.1 nd.1 nd.2) (.int x)) : ObjAt Z h' a q (sI ob k x) := by
  obtain ⟨ty, hty⟩ := pfS hk
  refine ⟨F.1.wr W, fun k' nd' hk' => ?_, fun k' t hk' hq => ⟨(F.2.2.1 k' t hk' hq).1.other W (Or.inr (Jvm.RoadKit.slot_ne (laidA hw hk') (laidS hw hk) (Ne.symm (nm_sa hk hk')) (pfA hk') hty)), ?_⟩, fun k' t hk' hq => (F.2.2.2 k' t hk' hq).other W (Or.inr (Jvm.RoadKit.slot_ne (laidA hw hk') (laidS hw hk) (Ne.symm (nm_sa hk hk')) (pfA hk') hty))⟩
  · by_cases e : k' = k
    · subst e; cases hk.symm.trans hk'
      have := (F.2.1 k' nd hk).same W
      simpa [sI] using this
    · obtain ⟨ty', hty'⟩ := pfS hk'
      have := (F.2.1 k' nd' hk').other W (Or.inr (Jvm.RoadKit.slot_ne (laidS hw hk') (laidS hw hk) (nm_ss hk' hk e) hty' hty))
      simpa [sI, e] using this
  · have := arrAt_fr (wr_ne W (by omega)) (F.2.2.1 k' t hk' hq).2
    have e : el t.2.1 (sI ob k x) k' = el t.2.1 ob k' := by funext j; unfold el; split <;> rfl
    rw [e]; exact this
theorem ObjAt.putA (F : ObjAt Z h a q ob) (hk : K.2.2[k]? = some t) (hq : k < q) {x : Value} {j : Int32} (hj : ¬ j < 0 ∧ j < t.2.2) (W : Wr h h' (a + 1 + k) j.toNatClampNeg x)
    (e1 : el t.2.1 ob' k = fun i => if i = j then x else el t.2.1 ob k i) (e2 : ∀ k' t', k' ≠ k → el t' ob' k' = el t' ob k') (e3 : ob'.1 = ob.1) : ObjAt Z h' a q ob' := by
  have u : h'[a]? = h[a]? := wr_ne W (by omega)
  refine ⟨exa_fr u F.1, fun k' nd hk' => by rw [e3]; exact fld_fr u (F.2.1 k' nd hk'), fun k' t' hk' hq' => ⟨fld_fr u (F.2.2.1 k' t' hk' hq').1, ?_⟩, fun k' t' hk' hq' => fld_fr u (F.2.2.2 k' t' hk' hq')⟩
  by_cases e : k' = k
  · subst e; cases hk.symm.trans hk'
    obtain ⟨cl, A, S, V⟩ := (F.2.2.1 k' t hk hq).2
    have inb : ¬ (j < 0 ∨ cl.slots.size ≤ j.toNatClampNeg) := inb_of S hj
    refine ⟨_, A.same W, by rw [sz_set]; exact S, fun i h0 h1 => ?_⟩
    rw [e1]
    by_cases ei : i = j
    · simp only [ei, if_true]; exact get_hit inb rfl
    · simp only [ei, if_false]; rw [get_miss hj.1 h0 ei]; exact V i h0 h1
  · rw [e2 k' _ e]; exact arrAt_fr (wr_ne W (by omega)) (F.2.2.1 k' t' hk' hq').2
theorem el_sA {ty : FieldType} (ht : ty ≠ .long) (j x : Int32) : el ty (sA ob k j x) k = fun i => if i = j then .int x else el ty ob k i := by
  funext i; cases ty <;> first | exact absurd rfl ht | (simp only [el, sA, true_and]; split <;> rfl)
theorem el_sJ (j : Int32) (x : Int64) : el .long (sJ ob k j x) k = fun i => if i = j then .long x else el .long ob k i := by
  funext i; simp only [el, sJ, true_and]; split <;> rfl
theorem el_sA' (j x : Int32) (k' : Nat) (t' : FieldType) (ne : k' ≠ k) : el t' (sA ob k j x) k' = el t' ob k' := by
  funext i; cases t' <;> simp [el, sA, ne]
theorem el_sJ' (j : Int32) (x : Int64) (k' : Nat) (t' : FieldType) (ne : k' ≠ k) : el t' (sJ ob k j x) k' = el t' ob k' := by
  funext i; cases t' <;> simp [el, sJ, ne]
theorem Rep.upd (R : Rep Z n0 h (top, (a, q, ob) :: H)) (hs : h'.size = h.size) (hO : Old Z n0 h') (e : ∀ b, (b < a ∨ a + q < b) → h'[b]? = h[b]?) (F : ObjAt Z h' a q ob') : Rep Z n0 h' (top, (a, q, ob') :: H) := by
  obtain ⟨r1, r2, r3, r4⟩ := R
  refine ⟨hs.trans r1, hO, fun x hx => ?_, ?_⟩
  · rcases List.mem_cons.mp hx with rfl | hx
    · exact ⟨(r3 _ (List.mem_cons_self ..)).1, (r3 _ (List.mem_cons_self ..)).2.1, F⟩
    · obtain ⟨p1, p2, p3⟩ := r3 x (List.mem_cons_of_mem _ hx)
      refine ⟨p1, p2, p3.frame fun b h1 h2 => e b ?_⟩
      have := (List.pairwise_cons.mp r4).1 x hx
      simp only at this
      omega
  · have := List.pairwise_cons.mp r4
    exact List.pairwise_cons.mpr ⟨fun y hy => this.1 y hy, this.2⟩
theorem Rep.objs (R : Rep Z n0 h (top, (a, q, ob) :: H)) : n0 ≤ a ∧ a + q < top ∧ ObjAt Z h a q ob := R.2.2.1 _ (List.mem_cons_self ..)
theorem Rep.putI {x : Int32} (hw : ∀ d ∈ tables_1, d.before a0 Z = true) (R : Rep Z n0 h (top, (a, q, ob) :: H)) (hk : K.2.1[k]? = some nd) (W : Wr h h' a (Jvm.RoadKit.slotOf Z K.1 nd.1 nd.2) (.int x)) : Rep Z n0 h' (top, (a, q, sI ob k x) :: H) :=
  R.upd W.size (R.2.1.wr W R.objs.1) (fun b hb => wr_ne W (by omega)) (R.objs.2.2.putI hw hk W)
theorem Rep.putA {x j : Int32} (R : Rep Z n0 h (top, (a, q, ob) :: H)) (hk : K.2.2[k]? = some t) (hq : k < q) (ht : t.2.1 ≠ .long) (hj : ¬ j < 0 ∧ j < t.2.2) (W : Wr h h' (a + 1 + k) j.toNatClampNeg (.int x)) : Rep Z n0 h' (top, (a, q, sA ob k j x) :: H) :=
  R.upd W.size (R.2.1.wr W (by have := R.objs.1; omega)) (fun b hb => wr_ne W (by omega)) (R.objs.2.2.putA hk hq hj W (el_sA ht j x) (fun k' t' ne => el_sA' j x k' t' ne) rfl)
theorem Rep.putJ {j : Int32} {x : Int64} (R : Rep Z n0 h (top, (a, q, ob) :: H)) (hk : K.2.2[k]? = some t) (hq : k < q) (ht : t.2.1 = .long) (hj : ¬ j < 0 ∧ j < t.2.2) (W : Wr h h' (a + 1 + k) j.toNatClampNeg (.long x)) : Rep Z n0 h' (top, (a, q, sJ ob k j x) :: H) :=
  R.upd W.size (R.2.1.wr W (by have := R.objs.1; omega)) (fun b hb => wr_ne W (by omega)) (R.objs.2.2.putA hk hq hj W (by rw [ht]; exact el_sJ j x) (fun k' t' ne => el_sJ' j x k' t' ne) rfl)
theorem Rep.swap {x y : Nat × Nat × Rec} (R : Rep Z n0 h (top, x :: y :: H)) : Rep Z n0 h (top, y :: x :: H) := by
  obtain ⟨r1, r2, r3, r4⟩ := R
  refine ⟨r1, r2, fun z hz => r3 z ?_, ?_⟩
  · simp only [List.mem_cons] at hz ⊢
    rcases hz with e | e | e
    · exact Or.inr (Or.inl e)
    · exact Or.inl e
    · exact Or.inr (Or.inr e)
  · simp only [List.pairwise_cons, List.mem_cons] at r4 ⊢
    obtain ⟨p1, p2, p3⟩ := r4
    refine ⟨fun z hz => ?_, fun z hz => p1 z (Or.inr hz), p3⟩
    rcases hz with rfl | hz
    · exact (p1 _ (Or.inl rfl)).symm
    · exact p2 z hz
theorem ObjAt.addA (hw : ∀ d ∈ tables_1, d.before a0 Z = true) (F : ObjAt Z h a k ob) (hk : K.2.2[k]? = some t) (A : ArrAt Z h (a + 1 + k) t.2.1 t.2.2 (el t.2.1 ob k)) (W : Wr h h' a (Jvm.RoadKit.slotOf Z K.1 t.1 (aD t.2.1)) (.ref (a + 1 + k))) : ObjAt Z h' a (k + 1) ob := by
  refine ⟨F.1.wr W, fun k' nd hk' => ?_, fun k' t' hk' hq => ?_, fun k' t' hk' hq => ?_⟩
  · obtain ⟨ty', hty'⟩ := pfS hk'
    exact (F.2.1 k' nd hk').other W (Or.inr (Jvm.RoadKit.slot_ne (laidS hw hk') (laidA hw hk) (nm_sa hk' hk) hty' (pfA hk)))
  · by_cases e : k' = k
    · subst e
      have et : t = t' := Option.some.inj (hk.symm.trans hk')
      subst et
      exact ⟨(F.2.2.2 k' t hk (Nat.le_refl _)).same W, arrAt_fr (wr_ne W (by omega)) A⟩
    · obtain ⟨f1, f2⟩ := F.2.2.1 k' t' hk' (by omega)
      exact ⟨f1.other W (Or.inr (Jvm.RoadKit.slot_ne (laidA hw hk') (laidA hw hk) (nm_aa hk' hk e) (pfA hk') (pfA hk))), arrAt_fr (wr_ne W (by omega)) f2⟩
  · exact (F.2.2.2 k' t' hk' (by omega)).other W (Or.inr (Jvm.RoadKit.slot_ne (laidA hw hk') (laidA hw hk) (nm_aa hk' hk (by omega)) (pfA hk') (pfA hk)))
theorem Rep.addA {h1 h2 : Heap} (hw : ∀ d ∈ tables_1, d.before a0 Z = true) (R : Rep Z n0 h (top, (a, k, ob) :: H)) (E : Ext h h1) (s1 : h1.size = top + 1) (htop : top = a + 1 + k) (hk : K.2.2[k]? = some t) (A : ArrAt Z h1 top t.2.1 t.2.2 (el t.2.1 ob k)) (W : Wr h1 h2 a (Jvm.RoadKit.slotOf Z K.1 t.1 (aD t.2.1)) (.ref top)) : Rep Z n0 h2 (top + 1, (a, k + 1, ob) :: H) := by
  obtain ⟨q1, q2, q3⟩ := R.objs
  have hp := List.pairwise_cons.mp R.2.2.2
  have hO : ObjAt Z h2 a (k + 1) ob := by
    subst htop
    exact (q3.ext E).addA hw hk A W
  refine ⟨W.size.trans s1, (R.2.1.ext E).wr W q1, List.forall_mem_cons.mpr ⟨⟨q1, ?_, hO⟩, fun x hx => ?_⟩, List.pairwise_cons.mpr ⟨fun y hy => ?_, hp.2⟩⟩
  · show a + (k + 1) < top + 1; omega
  · obtain ⟨p1, p2, p3⟩ := R.2.2.1 x (List.mem_cons_of_mem _ hx)
    have u1 : a + k < x.1 ∨ x.1 + x.2.1 < a := hp.1 x hx
    have u2 : x.1 + x.2.1 < top := p2
    exact ⟨p1, Nat.lt_succ_of_lt u2, (p3.ext E).frame fun b h1 h2 => wr_ne W (by omega)⟩
  · have u1 : a + k < y.1 ∨ y.1 + y.2.1 < a := hp.1 y hy
    have u2 : y.1 + y.2.1 < top := (R.2.2.1 y (List.mem_cons_of_mem _ hy)).2.1
    show a + (k + 1) < y.1 ∨ y.1 + y.2.1 < a
    omega
theorem arr_new {cA : ClassId} {ty : FieldType} {len : Int32} (A : Arr Z h b (newA cA ty len) ty) (hts : ty = .int ∨ ty = .boolean ∨ ty = .long) (hz : (∀ i, ob.2.1 k i = 0) ∧ (∀ i, ob.2.2 k i = 0)) : ArrAt Z h b ty len (el ty ob k) := by
  refine ⟨_, A, sz_new _ _ _, fun i h0 h1 => ?_⟩
  have hi : ¬ (i < 0 ∨ len.toNatClampNeg ≤ i.toNatClampNeg) := by
    have e0 : (0 : Int32).toInt = 0 := rfl
    simp only [Int32.lt_iff_toInt_lt, Int32.toNatClampNeg] at *
    omega
  rw [get_new hi]
  rcases hts with rfl | rfl | rfl
  · show some (Value.int 0) = some (Value.int (ob.2.1 k i)); rw [hz.1]
  · show some (Value.int 0) = some (Value.int (ob.2.1 k i)); rw [hz.1]
  · show some (Value.long 0) = some (Value.long (ob.2.2 k i)); rw [hz.2]
theorem Rep.start (s : State) : Rep s s.heap.size s.heap (s.heap.size, []) := ⟨rfl, Old.start s, fun x hx => (by cases hx), List.Pairwise.nil⟩
end Facts
/- bodies, decode facts, patterns of local variables -/
abbrev Bdy : Type := MethodName × ByteArray × Nat × Option FieldType × Room
def DAt (M : Bdy) (pc : Nat) (i : Instr) (n q : Nat) : Prop := decode M.2.1 pc = .ok (i, n) ∧ q = pc + n
abbrev Pat : Type := List (Option Slot)
abbrev vi (x : Int32) : Option Slot := some (.val (.int x))
abbrev vl (x : Int64) : Option Slot := some (.val (.long x))
abbrev vr (a : Nat) : Option Slot := some (.val (.ref a))
abbrev v2 : Option Slot := some .second
abbrev vn : Option Slot := none
def pget : Pat → Nat → Option Slot
  | [], _ => none
  | x :: _, 0 => x
  | _ :: l, n + 1 => pget l n
theorem pget_eq : ∀ (P : Pat) (i : Nat), pget P i = (P[i]?).join
  | [], _ => by simp [pget]
  | x :: l, 0 => by simp [pget]
  | x :: l, n + 1 => by simp [pget, pget_eq l n]
def pput : Pat → Nat → Option Slot → Pat
  | [], _, _ => []
  | _ :: l, 0, y => y :: l
  | x :: l, n + 1, y => x :: pput l n y
theorem pget_pput : ∀ (P : Pat) (i j : Nat) (y : Option Slot) (s : Slot), pget (pput P i y) j = some s → (j = i ∧ y = some s) ∨ (j ≠ i ∧ pget P j = some s)
  | [], _, _, _, _, h => by simp [pput, pget] at h
  | x :: l, 0, 0, y, s, h => Or.inl ⟨rfl, h⟩
  | x :: l, 0, j + 1, y, s, h => Or.inr ⟨by omega, h⟩
  | x :: l, i + 1, 0, y, s, h => Or.inr ⟨by omega, h⟩
  | x :: l, i + 1, j + 1, y, s, h => by
    rcases pget_pput l i j y s h with ⟨e, r⟩ | ⟨e, r⟩
    · exact Or.inl ⟨by omega, r⟩
    · exact Or.inr ⟨by omega, r⟩
/-- a two-word value whose first word is at i is forgotten -/
def pk1 (P : Pat) (i : Nat) : Pat := match pget P i with
  | some (.val (.long _)) => pput P i none
  | some (.val (.double _)) => pput P i none
  | _ => P
def pk2 (P : Pat) (i : Nat) : Pat := match pget P i with
  | some .second => pput P i none
  | _ => P
def pkp (P : Pat) : Nat → Pat
  | 0 => P
  | i + 1 => pk1 P i
def ps1 (P : Pat) (i : Nat) (v : Value) : Pat := pput (pk2 (pkp P i) (i + 1)) i (some (.val v))
def ps2 (P : Pat) (i : Nat) (v : Value) : Pat := pput (pput (pk2 (pkp P i) (i + 2)) i (some (.val v))) (i + 1) (some .second)
def WFl (L : Array Slot) : Prop := (∀ i : Nat, L[i]? = some .second → ∃ (j : Nat) (v : Value), i = j + 1 ∧ L[j]? = some (.val v) ∧ v.category = 2) ∧ (∀ (i : Nat) (v : Value), L[i]? = some (.val v) → v.category = 2 → L[i + 1]? = some .second)
def Fits (P : Pat) (L : Array Slot) : Prop := (∀ i s, pget P i = some s → L[i]? = some s) ∧ WFl L
theorem pk1_sub {P : Pat} {i j : Nat} {s : Slot} (h : pget (pk1 P i) j = some s) : pget P j = some s ∧ (j = i → ∀ w : Value, s = .val w → w.category = 1) := by
  unfold pk1 at h
  split at h
  · rcases pget_pput _ _ _ _ _ h with ⟨-, e⟩ | ⟨e, r⟩
    · cases e
    · exact ⟨r, fun q => absurd q e⟩
  · rcases pget_pput _ _ _ _ _ h with ⟨-, e⟩ | ⟨e, r⟩
    · cases e
    · exact ⟨r, fun q => absurd q e⟩
  · rename_i h1 h2
    refine ⟨h, fun q w e => ?_⟩
    subst q e
    cases w <;> first | rfl | exact absurd h (h1 _) | exact absurd h (h2 _)
theorem pk2_sub {P : Pat} {i j : Nat} {s : Slot} (h : pget (pk2 P i) j = some s) : pget P j = some s ∧ (j = i → s ≠ .second) := by
  unfold pk2 at h
  split at h
  · rcases pget_pput _ _ _ _ _ h with ⟨-, e⟩ | ⟨e, r⟩
    · cases e
    · exact ⟨r, fun q => absurd q e⟩
  · rename_i h1
    refine ⟨h, fun q e => ?_⟩
    subst q e; exact h1 h
theorem pkp_sub {P : Pat} {i j : Nat} {s : Slot} (h : pget (pkp P i) j = some s) : pget P j = some s ∧ (j + 1 = i → ∀ w : Value, s = .val w → w.category = 1) := by
  cases i with
  | zero => exact ⟨h, fun q => by omega⟩
  | succ i => obtain ⟨h1, h2⟩ := pk1_sub (show pget (pk1 P i) j = some s from h); exact ⟨h1, fun q => h2 (by omega)⟩
theorem setAt_eq {L : Array Slot} {i : Nat} {x : Slot} (hi : i < L.size) : Jvm.setAt L i x = some (L.setIfInBounds i x) := by simp [Jvm.setAt, hi]
theorem sl_second {L : Array Slot} {i : Nat} {v : Value} (ho : L[i]? = some .second) : storeLocals L i v = (Jvm.setAt L (i - 1) .unset).bind fun l => storeSelf l i v := by
  unfold storeLocals; rw [ho]; rfl
theorem sl_unset {L : Array Slot} {i : Nat} {v : Value} (ho : L[i]? = some .unset) : storeLocals L i v = storeSelf L i v := by
  unfold storeLocals; rw [ho]; rfl
theorem sl_val {L : Array Slot} {i : Nat} {v o : Value} (ho : L[i]? = some (.val o)) : storeLocals L i v = if o.category = 2 then (Jvm.setAt L (i + 1) .unset).bind fun l => storeSelf l i v else storeSelf L i v := by
  unfold storeLocals; rw [ho]; rfl
theorem ss_one {L : Array Slot} {i : Nat} {v : Value} (hi : i < L.size) (hv : ¬ v.category = 2) : storeSelf L i v = some (L.setIfInBounds i (.val v)) := by
  unfold storeSelf; rw [setAt_eq hi]; simp [hv]
theorem ss_two {L : Array Slot} {i : Nat} {v : Value} {o : Slot} (hi : i < L.size) (hv : v.category = 2) (ho : L[i + 1]? = some o) : storeSelf L i v = (match o with
    | .val old => if old.category = 2 then (Jvm.setAt (L.setIfInBounds i (.val v)) (i + 2) .unset).bind fun l => Jvm.setAt l (i + 1) .second else Jvm.setAt (L.setIfInBounds i (.val v)) (i + 1) .second
    | _ => Jvm.setAt (L.setIfInBounds i (.val v)) (i + 1) .second) := by
  have e : (L.setIfInBounds i (.val v))[i + 1]? = some o := by rw [Array.getElem?_setIfInBounds_ne (by omega)]; exact ho
  unfold storeSelf; rw [setAt_eq hi]
  show (if v.category = 2 then _ else _) = _
  rw [if_pos hv, e]
  cases o <;> rfl
theorem cat12 (v : Value) : v.category = 1 ∨ v.category = 2 := by cases v <;> first | exact Or.inl rfl | exact Or.inr rfl
/-- a one-word store: what stands elsewhere stays, but for the halves of a two-word value that it breaks -/
theorem store_one {L : Array Slot} {i : Nat} {v : Value} (hW : WFl L) (hi : i < L.size) (hv : v.category = 1) :
    ∃ L', storeLocals L i v = some L' ∧ L'.size = L.size ∧ WFl L' ∧ L'[i]? = some (.val v) ∧ ∀ j, j ≠ i → L'[j]? = L[j]? ∨ (j + 1 = i ∧ L[i]? = some .second) ∨ (j = i + 1 ∧ L[j]? = some .second) := by
  have hv2 : ¬ v.category = 2 := by omega
  cases ho : L[i]? with
  | none => rw [Array.getElem?_eq_none_iff] at ho; omega
  | some o =>
    cases o with
    | unset =>
      refine ⟨L.setIfInBounds i (.val v), ?_, by simp, ?_, by simp [hi], fun j hj => Or.inl (Array.getElem?_setIfInBounds_ne (Ne.symm hj))⟩
      · rw [sl_unset ho, ss_one hi hv2]
      · refine ⟨fun j hj => ?_, fun j w hj hw => ?_⟩
        · by_cases e : j = i
          · subst e; simp [hi] at hj
          · rw [Array.getElem?_setIfInBounds_ne (Ne.symm e)] at hj
            obtain ⟨j', w, e1, e2, e3⟩ := hW.1 j hj
            refine ⟨j', w, e1, ?_, e3⟩
            rw [Array.getElem?_setIfInBounds_ne]; exact e2
            intro q; subst q; rw [ho] at e2; cases e2
        · by_cases e : j = i
          · subst e; simp [hi] at hj; subst hj; omega
          · rw [Array.getElem?_setIfInBounds_ne (Ne.symm e)] at hj
            have := hW.2 j w hj hw
            rw [Array.getElem?_setIfInBounds_ne]; exact this
            intro q; subst q; rw [ho] at this; cases this
    | second =>
      obtain ⟨j0, w0, rfl, f2, f3⟩ := hW.1 i ho
      have hj0 : j0 < L.size := by omega
      refine ⟨(L.setIfInBounds j0 .unset).setIfInBounds (j0 + 1) (.val v), ?_, by simp, ?_, by simp [hi], fun j hj => ?_⟩
      · rw [sl_second ho, show j0 + 1 - 1 = j0 from rfl, setAt_eq hj0]; exact ss_one (by simpa using hi) hv2
      · refine ⟨fun j hj => ?_, fun j w hj hw => ?_⟩
        · by_cases e : j = j0 + 1
          · subst e; simp [hi] at hj
          · rw [Array.getElem?_setIfInBounds_ne (Ne.symm e)] at hj
            by_cases e' : j = j0
            · subst e'; simp [hj0] at hj
            · rw [Array.getElem?_setIfInBounds_ne (Ne.symm e')] at hj
              obtain ⟨j', w, e1, e2, e3⟩ := hW.1 j hj
              refine ⟨j', w, e1, ?_, e3⟩
              rw [Array.getElem?_setIfInBounds_ne, Array.getElem?_setIfInBounds_ne]
              · exact e2
              · intro q; subst q; omega
              · intro q; subst q; rw [ho] at e2; cases e2
        · by_cases e : j = j0 + 1
          · subst e; simp [hi] at hj; subst hj; omega
          · rw [Array.getElem?_setIfInBounds_ne (Ne.symm e)] at hj
            by_cases e' : j = j0
            · subst e'; simp [hj0] at hj
            · rw [Array.getElem?_setIfInBounds_ne (Ne.symm e')] at hj
              have := hW.2 j w hj hw
              rw [Array.getElem?_setIfInBounds_ne, Array.getElem?_setIfInBounds_ne]
              · exact this
              · intro q; subst q; rw [f2] at this; cases this
              · omega
      · by_cases e' : j = j0
        · exact Or.inr (Or.inl ⟨by omega, rfl⟩)
        · left; rw [Array.getElem?_setIfInBounds_ne (Ne.symm hj), Array.getElem?_setIfInBounds_ne (Ne.symm e')]
    | val old =>
      by_cases hc : old.category = 2
      · have f2 := hW.2 i old ho hc
        have hi1 : i + 1 < L.size := (Array.getElem?_eq_some_iff.mp f2).1
        refine ⟨(L.setIfInBounds (i + 1) .unset).setIfInBounds i (.val v), ?_, by simp, ?_, by simp [hi], fun j hj => ?_⟩
        · rw [sl_val ho, if_pos hc, setAt_eq hi1]; exact ss_one (by simpa using hi) hv2
        · refine ⟨fun j hj => ?_, fun j w hj hw => ?_⟩
          · by_cases e : j = i
            · subst e; simp [hi] at hj
            · rw [Array.getElem?_setIfInBounds_ne (Ne.symm e)] at hj
              by_cases e' : j = i + 1
              · subst e'; simp [hi1] at hj
              · rw [Array.getElem?_setIfInBounds_ne (Ne.symm e')] at hj
                obtain ⟨j', w, e1, e2, e3⟩ := hW.1 j hj
                refine ⟨j', w, e1, ?_, e3⟩
                rw [Array.getElem?_setIfInBounds_ne, Array.getElem?_setIfInBounds_ne]
                · exact e2
                · intro q; subst q; rw [f2] at e2; cases e2
                · omega
          · by_cases e : j = i
            · subst e; simp [hi] at hj; subst hj; omega
            · rw [Array.getElem?_setIfInBounds_ne (Ne.symm e)] at hj
              by_cases e' : j = i + 1
              · subst e'; simp [hi1] at hj
              · rw [Array.getElem?_setIfInBounds_ne (Ne.symm e')] at hj
                have := hW.2 j w hj hw
                rw [Array.getElem?_setIfInBounds_ne, Array.getElem?_setIfInBounds_ne]
                · exact this
                · omega
                · intro q; subst q; rw [ho] at this; cases this
        · by_cases e' : j = i + 1
          · subst e'; exact Or.inr (Or.inr ⟨rfl, f2⟩)
          · left; rw [Array.getElem?_setIfInBounds_ne (Ne.symm hj), Array.getElem?_setIfInBounds_ne (Ne.symm e')]
      · refine ⟨L.setIfInBounds i (.val v), ?_, by simp, ?_, by simp [hi], fun j hj => Or.inl (Array.getElem?_setIfInBounds_ne (Ne.symm hj))⟩
        · rw [sl_val ho, if_neg hc, ss_one hi hv2]
        · refine ⟨fun j hj => ?_, fun j w hj hw => ?_⟩
          · by_cases e : j = i
            · subst e; simp [hi] at hj
            · rw [Array.getElem?_setIfInBounds_ne (Ne.symm e)] at hj
              obtain ⟨j', w, e1, e2, e3⟩ := hW.1 j hj
              refine ⟨j', w, e1, ?_, e3⟩
              rw [Array.getElem?_setIfInBounds_ne]; exact e2
              intro q; subst q; rw [ho] at e2; cases e2; omega
          · by_cases e : j = i
            · subst e; simp [hi] at hj; subst hj; omega
            · rw [Array.getElem?_setIfInBounds_ne (Ne.symm e)] at hj
              have := hW.2 j w hj hw
              rw [Array.getElem?_setIfInBounds_ne]; exact this
              intro q; subst q; rw [ho] at this; cases this
theorem Fits.store1 {P : Pat} {L : Array Slot} {i : Nat} {v : Value} (h : Fits P L) (hi : i < L.size) (hv : v.category = 1) :
    ∃ L', storeLocals L i v = some L' ∧ L'.size = L.size ∧ Fits (ps1 P i v) L' := by
  obtain ⟨L', e1, e2, e3, e4, e5⟩ := store_one h.2 hi hv
  refine ⟨L', e1, e2, fun j s hj => ?_, e3⟩
  rcases pget_pput _ _ _ _ _ hj with ⟨rfl, q⟩ | ⟨ne, q⟩
  · rw [e4]; exact q
  · obtain ⟨q1, q2⟩ := pk2_sub q
    obtain ⟨q3, q4⟩ := pkp_sub q1
    have hL := h.1 j s q3
    rcases e5 j ne with r | ⟨r1, r2⟩ | ⟨r1, r2⟩
    · rw [r]; exact hL
    · obtain ⟨j', w, z1, z2, z3⟩ := h.2.1 i r2
      have : j' = j := by omega
      subst this
      rw [hL] at z2; cases z2
      have := q4 r1 w rfl; omega
    · rw [hL] at r2; cases r2
      exact absurd rfl (q2 r1)
theorem st_ph1 {L : Array Slot} {i : Nat} {v : Value} (hW : WFl L) (hi : i + 1 < L.size) :
    ∃ A : Array Slot, storeLocals L i v = storeSelf A i v ∧ A.size = L.size ∧ (∀ j, j ≠ i → j ≠ i + 1 → A[j]? = L[j]? ∨ (j + 1 = i ∧ L[i]? = some .second ∧ A[j]? = some .unset)) ∧ (A[i + 1]? = L[i + 1]? ∨ (A[i + 1]? = some .unset ∧ L[i + 1]? = some .second)) ∧ (L[i]? = some .second → ∀ j, j + 1 = i → A[j]? = some .unset) := by
  have hi0 : i < L.size := by omega
  cases ho : L[i]? with
  | none => rw [Array.getElem?_eq_none_iff] at ho; omega
  | some o =>
    cases o with
    | unset => exact ⟨L, sl_unset ho, rfl, fun j _ _ => Or.inl rfl, Or.inl rfl, fun q => by cases q⟩
    | second =>
      obtain ⟨j0, w0, rfl, f2, f3⟩ := hW.1 i ho
      have hj0 : j0 < L.size := by omega
      refine ⟨L.setIfInBounds j0 .unset, by rw [sl_second ho, show j0 + 1 - 1 = j0 from rfl, setAt_eq hj0]; rfl, by simp, fun j h1 h2 => ?_, Or.inl (Array.getElem?_setIfInBounds_ne (by omega)), fun _ j hj => ?_⟩
      · by_cases e : j = j0
        · subst e; exact Or.inr ⟨rfl, rfl, by simp [hj0]⟩
        · exact Or.inl (Array.getElem?_setIfInBounds_ne (Ne.symm e))
      · have : j = j0 := by omega
        subst this; simp [hj0]
    | val old =>
      by_cases hc : old.category = 2
      · refine ⟨L.setIfInBounds (i + 1) .unset, by rw [sl_val ho, if_pos hc, setAt_eq hi]; rfl, by simp, fun j h1 h2 => Or.inl (Array.getElem?_setIfInBounds_ne (Ne.symm h2)), Or.inr ⟨by simp [hi], hW.2 i old ho hc⟩, fun q => by cases q⟩
      · exact ⟨L, by rw [sl_val ho, if_neg hc], rfl, fun j _ _ => Or.inl rfl, Or.inl rfl, fun q => by cases q⟩
theorem st_ph2 {A : Array Slot} {i : Nat} {v : Value} (hi : i + 1 < A.size) (hv : v.category = 2) (hn : ∀ w : Value, A[i + 1]? = some (.val w) → w.category = 2 → i + 2 < A.size) :
    ∃ L', storeSelf A i v = some L' ∧ L'.size = A.size ∧ L'[i]? = some (.val v) ∧ L'[i + 1]? = some .second ∧ (∀ j, j ≠ i → j ≠ i + 1 → L'[j]? = A[j]? ∨ (j = i + 2 ∧ L'[j]? = some .unset ∧ ∃ w : Value, A[i + 1]? = some (.val w) ∧ w.category = 2)) ∧ ((∃ w : Value, A[i + 1]? = some (.val w) ∧ w.category = 2) → L'[i + 2]? = some .unset) := by
  have hi0 : i < A.size := by omega
  have eB : (A.setIfInBounds i (.val v))[i + 1]? = A[i + 1]? := Array.getElem?_setIfInBounds_ne (by omega)
  have plain : (∀ w : Value, A[i + 1]? = some (.val w) → w.category ≠ 2) → storeSelf A i v = some ((A.setIfInBounds i (.val v)).setIfInBounds (i + 1) .second) := fun hq => by
    cases ho : A[i + 1]? with
    | none => rw [Array.getElem?_eq_none_iff] at ho; omega
    | some o => cases o with
      | unset => rw [ss_two hi0 hv ho]; exact setAt_eq (by simpa using hi)
      | second => rw [ss_two hi0 hv ho]; exact setAt_eq (by simpa using hi)
      | val w => have := hq w ho; rw [ss_two hi0 hv ho]; simp only [if_neg this]; exact setAt_eq (by simpa using hi)
  by_cases hw : ∃ w : Value, A[i + 1]? = some (.val w) ∧ w.category = 2
  · obtain ⟨w, h1, h2⟩ := hw
    have h3 := hn w h1 h2
    refine ⟨((A.setIfInBounds i (.val v)).setIfInBounds (i + 2) .unset).setIfInBounds (i + 1) .second, by rw [ss_two hi0 hv h1]; simp only [if_pos h2]; rw [setAt_eq (by simpa using h3)]; exact setAt_eq (by simpa using hi), by simp, ?_, by simp [hi], fun j a b => ?_, fun _ => ?_⟩
    · rw [Array.getElem?_setIfInBounds_ne (by omega), Array.getElem?_setIfInBounds_ne (by omega)]; simp [hi0]
    · rw [Array.getElem?_setIfInBounds_ne (by omega)]
      by_cases e : j = i + 2
      · subst e; exact Or.inr ⟨rfl, by simp [h3], w, h1, h2⟩
      · left; rw [Array.getElem?_setIfInBounds_ne (by omega), Array.getElem?_setIfInBounds_ne (by omega)]
    · rw [Array.getElem?_setIfInBounds_ne (by omega)]; simp [h3]
  · refine ⟨_, plain fun w h1 h2 => hw ⟨w, h1, h2⟩, by simp, ?_, by simp [hi], fun j a b => Or.inl ?_, fun q => absurd q hw⟩
    · rw [Array.getElem?_setIfInBounds_ne (by omega)]; simp [hi0]
    · rw [Array.getElem?_setIfInBounds_ne (by omega), Array.getElem?_setIfInBounds_ne (by omega)]
theorem store_two {L : Array Slot} {i : Nat} {v : Value} (hW : WFl L) (hi : i + 1 < L.size) (hv : v.category = 2) :
    ∃ L', storeLocals L i v = some L' ∧ L'.size = L.size ∧ WFl L' ∧ L'[i]? = some (.val v) ∧ L'[i + 1]? = some .second ∧ ∀ j, j ≠ i → j ≠ i + 1 → L'[j]? = L[j]? ∨ (j + 1 = i ∧ L[i]? = some .second) ∨ (j = i + 2 ∧ L[j]? = some .second) := by
  obtain ⟨A, a1, a2, a3, a4, a5⟩ := st_ph1 (v := v) hW hi
  have a6 : ∀ w : Value, A[i + 1]? = some (.val w) → w.category = 2 → L[i + 2]? = some .second := fun w h1 h2 => by
    rcases a4 with e | ⟨e, -⟩
    · rw [e] at h1; exact hW.2 _ _ h1 h2
    · rw [e] at h1; cases h1
  obtain ⟨L', b1, b2, b3, b4, b5, b6⟩ := st_ph2 (A := A) (i := i) (v := v) (by omega) hv (fun w h1 h2 => by have := (Array.getElem?_eq_some_iff.mp (a6 w h1 h2)).1; omega)
  have c : ∀ j, j ≠ i → j ≠ i + 1 → L'[j]? = L[j]? ∨ (j + 1 = i ∧ L[i]? = some .second ∧ L'[j]? = some .unset) ∨ (j = i + 2 ∧ L[j]? = some .second ∧ L'[j]? = some .unset) := fun j h1 h2 => by
    rcases b5 j h1 h2 with e | ⟨e1, e2, w, e3, e4⟩
    · rcases a3 j h1 h2 with r | ⟨r1, r2, r3⟩
      · exact Or.inl (e.trans r)
      · exact Or.inr (Or.inl ⟨r1, r2, e.trans r3⟩)
    · subst e1; exact Or.inr (Or.inr ⟨rfl, a6 w e3 e4, e2⟩)
  have cs : L[i]? = some .second → ∀ j, j + 1 = i → L'[j]? = some .unset := fun q j hj => by
    rcases b5 j (by omega) (by omega) with e | ⟨e1, -⟩
    · exact e.trans (a5 q j hj)
    · omega
  have c2 : L[i + 2]? = some .second → L'[i + 2]? = some .unset := fun q => by
    obtain ⟨j', w, z1, z2, z3⟩ := hW.1 _ q
    have : j' = i + 1 := by omega
    subst this
    rcases a4 with e | ⟨-, e⟩
    · exact b6 ⟨w, e.trans z2, z3⟩
    · rw [e] at z2; cases z2
  refine ⟨L', a1.trans b1, b2.trans a2, ⟨fun j hj => ?_, fun j w hj hw => ?_⟩, b3, b4, fun j h1 h2 => ?_⟩
  · by_cases e0 : j = i
    · subst e0; rw [b3] at hj; cases hj
    by_cases e1 : j = i + 1
    · exact ⟨i, v, e1, b3, hv⟩
    rcases c j e0 e1 with r | ⟨-, -, r⟩ | ⟨-, -, r⟩
    · rw [r] at hj
      obtain ⟨j', w, z1, z2, z3⟩ := hW.1 j hj
      refine ⟨j', w, z1, ?_, z3⟩
      have n0 : j' ≠ i := by omega
      by_cases n1 : j' = i + 1
      · have : j = i + 2 := by omega
        subst this
        rw [c2 hj] at r; rw [hj] at r; cases r
      rcases c j' n0 n1 with u | ⟨u, -, -⟩ | ⟨-, u, -⟩
      · exact u.trans z2
      · omega
      · rw [z2] at u; cases u
    · rw [r] at hj; cases hj
    · rw [r] at hj; cases hj
  · by_cases e0 : j = i
    · subst e0; exact b4
    by_cases e1 : j = i + 1
    · subst e1; rw [b4] at hj; cases hj
    rcases c j e0 e1 with r | ⟨-, -, r⟩ | ⟨-, -, r⟩
    · have hj' := hj
      rw [r] at hj
      have z := hW.2 j w hj hw
      by_cases n0 : j + 1 = i
      · subst n0; rw [cs z j rfl] at hj'; cases hj'
      by_cases n1 : j + 1 = i + 1
      · omega
      rcases c (j + 1) n0 n1 with u | ⟨u1, u2, -⟩ | ⟨u, -, -⟩
      · exact u.trans z
      · obtain ⟨j', w', y1, y2, y3⟩ := hW.1 i u2
        have : j' = j + 1 := by omega
        subst this; rw [z] at y2; cases y2
      · omega
    · rw [r] at hj; cases hj
    · rw [r] at hj; cases hj
  · rcases c j h1 h2 with r | ⟨r1, r2, -⟩ | ⟨r1, r2, -⟩
    · exact Or.inl r
    · exact Or.inr (Or.inl ⟨r1, r2⟩)
    · exact Or.inr (Or.inr ⟨r1, r2⟩)
theorem Fits.store2 {P : Pat} {L : Array Slot} {i : Nat} {v : Value} (h : Fits P L) (hi : i + 1 < L.size) (hv : v.category = 2) :
    ∃ L', storeLocals L i v = some L' ∧ L'.size = L.size ∧ Fits (ps2 P i v) L' := by
  obtain ⟨L', e1, e2, e3, e4, e4', e5⟩ := store_two h.2 hi hv
  refine ⟨L', e1, e2, fun j s hj => ?_, e3⟩
  rcases pget_pput _ _ _ _ _ hj with ⟨rfl, q⟩ | ⟨ne, q⟩
  · rw [e4']; exact q
  rcases pget_pput _ _ _ _ _ q with ⟨rfl, q'⟩ | ⟨ne', q'⟩
  · rw [e4]; exact q'
  obtain ⟨q1, q2⟩ := pk2_sub q'
  obtain ⟨q3, q4⟩ := pkp_sub q1
  have hL := h.1 j s q3
  rcases e5 j ne' ne with r | ⟨r1, r2⟩ | ⟨r1, r2⟩
  · rw [r]; exact hL
  · obtain ⟨j', w, z1, z2, z3⟩ := h.2.1 i r2
    have : j' = j := by omega
    subst this
    rw [hL] at z2; cases z2
    have := q4 r1 w rfl; omega
  · rw [hL] at r2; cases r2
    exact absurd rfl (q2 r1)
/- what a body does from a place on -/
def Runs (C : Ctx) (M : Bdy) (k n pc : Nat) (P : Pat) (S : List Value) (G : AH) (Q : Option Value → AH → Prop) : Prop :=
  Ok C → ∀ (p : Program) (e : Env) (s : State) (m : MethodId) (args : Array Value) (below : List Frame) (meth : Method) (c : Code) (T : State) (locs : List Loc) (L : Array Slot),
    p.tables.exec = Jvm.exec → c.code = M.2.1 → c.maxLocals = M.2.2.1 → meth.sig.returnType = M.2.2.2.1 → meth.name = M.1.name → s.vm.findClass M.1.cls = some m.cls → C.2.1.Warmed39 s.vm →
    Fits P L → L.size = M.2.2.1 → Stand p C.1 e M.2.2.2.2 s m args below meth c T locs k n → Rep C.2.1 C.2.2.1 T.heap G → Fr C.2.2.1 locs →
    ∃ (T' : State) (locs' : List Loc) (k' n' : Nat) (r : Option Value) (G' : AH), Stand p C.1 e M.2.2.2.2 s m args below meth c T' locs' k' n' ∧ k' ≤ M.2.2.2.2.cells ∧ n' ≤ M.2.2.2.2.slots ∧ Rep C.2.1 C.2.2.1 T'.heap G' ∧ Fr C.2.2.1 locs' ∧ Q r G' ∧
      (M.2.2.2.1 = none → r = none) ∧
      ∀ fs : List Frame, (∀ (f : JFrame) (acts : List Action), f.method = m → f.locked = none → f.entered = [] → (doReturn e (T'.setTop f) acts r).1 = T'.setFrames fs) → Steps p.tables e below (T.setTop (mkF m pc L S)) (T'.setFrames fs)
section Rules
variable {C : Ctx} {M : Bdy} {k n pc q : Nat} {P P' : Pat} {S S' : List Value} {G : AH} {Q : Option Value → AH → Prop}
/-- a step that leaves the heap alone -/
theorem Runs.pure {i : Instr} {len : Nat} (d : DAt M pc i len q) {pc' : Nat}
    (st : ∀ (p : Program) (e : Env) (s : State) (m : MethodId) (args : Array Value) (below : List Frame) (meth : Method) (c : Code) (T : State) (locs : List Loc) (L : Array Slot), Ok C → p.tables.exec = Jvm.exec → s.vm.findClass M.1.cls = some m.cls → C.2.1.Warmed39 s.vm → decode c.code pc = .ok (i, len) → Fits P L → L.size = M.2.2.1 → Rep C.2.1 C.2.2.1 T.heap G →
      Stand p C.1 e M.2.2.2.2 s m args below meth c T locs k n → ∃ L', Fits P' L' ∧ L'.size = M.2.2.1 ∧ ∀ t, Steps p.tables e below (T.setTop (mkF m pc' L' S')) t → Steps p.tables e below (T.setTop (mkF m pc L S)) t)
    (h : Runs C M k n pc' P' S' G Q) : Runs C M k n pc P S G Q := by
  intro hw p e s m args below meth c T locs L hx hby hml hret hnm hown hZ hP hsz X hR hF
  obtain ⟨L', f1, f2, f3⟩ := st p e s m args below meth c T locs L hw hx hown hZ (hb hby d.1) hP hsz hR X
  obtain ⟨T', locs', k', n', r, G', g1, g2, g3, g4, g5, g6, g7, g8⟩ := h hw p e s m args below meth c T locs L' hx hby hml hret hnm hown hZ f1 f2 X hR hF
  exact ⟨T', locs', k', n', r, G', g1, g2, g3, g4, g5, g6, g7, fun fs hr => f3 _ (g8 fs hr)⟩
/-- a step that keeps the locals and what the heap says -/
theorem Runs.stk {i : Instr} {len : Nat} (d : DAt M pc i len q)
    (st : ∀ (p : Program) (e : Env) (s : State) (m : MethodId) (args : Array Value) (below : List Frame) (meth : Method) (c : Code) (T : State) (locs : List Loc) (L : Array Slot), p.tables.exec = Jvm.exec → decode c.code pc = .ok (i, len) → Fits P L →
      Stand p C.1 e M.2.2.2.2 s m args below meth c T locs k n → ∀ t, Steps p.tables e below (T.setTop (mkF m (pc + len) L S')) t → Steps p.tables e below (T.setTop (mkF m pc L S)) t)
    (h : Runs C M k n q P S' G Q) : Runs C M k n pc P S G Q := by
  have hq := d.2
  subst hq
  exact Runs.pure d (fun p e s m args below meth c T locs L _ hx _ _ hd hP hsz _ X => ⟨L, hP, hsz, st p e s m args below meth c T locs L hx hd hP X⟩) h
theorem Runs.iloadN {j : Fin 4} {v : Int32} (d : DAt M pc (.iload_n j) 1 q) (hl : pget P j.val = vi v) (h : Runs C M k n q P (.int v :: S) G Q) : Runs C M k n pc P S G Q :=
  Runs.stk d (fun p e s m args below meth c T locs L hx hd hP X t r => XS.iloadN (g := mkF m pc L S) X.here hx rfl hd (hP.1 _ _ hl) r) h
theorem Runs.iload {j : Nat} {v : Int32} (d : DAt M pc (.iload j) 2 q) (hl : pget P j = vi v) (h : Runs C M k n q P (.int v :: S) G Q) : Runs C M k n pc P S G Q :=
  Runs.stk d (fun p e s m args below meth c T locs L hx hd hP X t r => XS.iload (g := mkF m pc L S) X.here hx rfl hd (hP.1 _ _ hl) r) h
theorem Runs.lloadN {j : Fin 4} {v : Int64} (d : DAt M pc (.lload_n j) 1 q) (hl : pget P j.val = vl v) (h : Runs C M k n q P (.long v :: S) G Q) : Runs C M k n pc P S G Q :=
  Runs.stk d (fun p e s m args below meth c T locs L hx hd hP X t r => XS.lloadN (g := mkF m pc L S) X.here hx rfl hd (hP.1 _ _ hl) r) h
theorem Runs.lload {j : Nat} {v : Int64} (d : DAt M pc (.lload j) 2 q) (hl : pget P j = vl v) (h : Runs C M k n q P (.long v :: S) G Q) : Runs C M k n pc P S G Q :=
  Runs.stk d (fun p e s m args below meth c T locs L hx hd hP X t r => XS.lload (g := mkF m pc L S) X.here hx rfl hd (hP.1 _ _ hl) r) h
theorem Runs.aloadN {j : Fin 4} {v : Nat} (d : DAt M pc (.aload_n j) 1 q) (hl : pget P j.val = vr v) (h : Runs C M k n q P (.ref v :: S) G Q) : Runs C M k n pc P S G Q :=
  Runs.stk d (fun p e s m args below meth c T locs L hx hd hP X t r => XS.aloadN (g := mkF m pc L S) X.here hx rfl hd (hP.1 _ _ hl) rfl r) h
theorem Runs.aload {j : Nat} {v : Nat} (d : DAt M pc (.aload j) 2 q) (hl : pget P j = vr v) (h : Runs C M k n q P (.ref v :: S) G Q) : Runs C M k n pc P S G Q :=
  Runs.stk d (fun p e s m args below meth c T locs L hx hd hP X t r => XS.aload (g := mkF m pc L S) X.here hx rfl hd (hP.1 _ _ hl) rfl r) h
theorem Runs.iconst {i : Int} {v : Int32} (d : DAt M pc (.iconst i) 1 q) (hv : Int32.ofInt i = v) (h : Runs C M k n q P (.int v :: S) G Q) : Runs C M k n pc P S G Q :=
  Runs.stk d (fun p e s m args below meth c T locs L hx hd hP X t r => XS.iconst (g := mkF m pc L S) X.here hx rfl hd (by rw [hv]; exact r)) h
theorem Runs.bipush {i : Int} {v : Int32} (d : DAt M pc (.bipush i) 2 q) (hv : (Int8.ofInt i).toInt32 = v) (h : Runs C M k n q P (.int v :: S) G Q) : Runs C M k n pc P S G Q :=
  Runs.stk d (fun p e s m args below meth c T locs L hx hd hP X t r => XS.bipush (g := mkF m pc L S) X.here hx rfl hd (by rw [hv]; exact r)) h
theorem Runs.sipush {i : Int} {v : Int32} (d : DAt M pc (.sipush i) 3 q) (hv : (Int16.ofInt i).toInt32 = v) (h : Runs C M k n q P (.int v :: S) G Q) : Runs C M k n pc P S G Q :=
  Runs.stk d (fun p e s m args below meth c T locs L hx hd hP X t r => XS.sipush (g := mkF m pc L S) X.here hx rfl hd (by rw [hv]; exact r)) h
theorem Runs.lconst {i : Fin 2} {v : Int64} (d : DAt M pc (.lconst i) 1 q) (hv : Int64.ofNat i = v) (h : Runs C M k n q P (.long v :: S) G Q) : Runs C M k n pc P S G Q :=
  Runs.stk d (fun p e s m args below meth c T locs L hx hd hP X t r => Jvm.Free.XT.lconstV (g := mkF m pc L S) X.here hx rfl v hd hv r) h
theorem Runs.ldc {i : Nat} {v : Int32} (d : DAt M pc (.ldc i) 2 q) (w : Jvm.Cond.constant M.1.cls i v ∈ tables_1) (h : Runs C M k n q P (.int v :: S) G Q) : Runs C M k n pc P S G Q := by
  have hq := d.2
  subst hq
  exact Runs.pure d (fun p e s m args below meth c T locs L hw hx hown hZ hd hP hsz _ X => ⟨L, hP, hsz, fun t r => X.ldcInt hx hown (mvT hZ (hw _ w)) (g := mkF m pc L S) rfl hd t r⟩) h
theorem Runs.ldc2 {i : Nat} {v : Int64} (d : DAt M pc (.ldc2_w i) 3 q) (w : Jvm.Cond.constantLong M.1.cls i v ∈ tables_1) (h : Runs C M k n q P (.long v :: S) G Q) : Runs C M k n pc P S G Q := by
  have hq := d.2
  subst hq
  exact Runs.pure d (fun p e s m args below meth c T locs L hw hx hown hZ hd hP hsz _ X => ⟨L, hP, hsz, fun t r => X.ldc2Long hx hown (mvT hZ (hw _ w)) (g := mkF m pc L S) rfl hd t r⟩) h
theorem Runs.iadd {x y : Int32} (d : DAt M pc .iadd 1 q) (h : Runs C M k n q P (.int (x + y) :: S) G Q) : Runs C M k n pc P (.int y :: .int x :: S) G Q :=
  Runs.stk d (fun p e s m args below meth c T locs L hx hd hP X t r => XS.iadd (g := mkF m pc L (.int y :: .int x :: S)) X.here hx rfl hd rfl r) h
theorem Runs.isub {x y : Int32} (d : DAt M pc .isub 1 q) (h : Runs C M k n q P (.int (x - y) :: S) G Q) : Runs C M k n pc P (.int y :: .int x :: S) G Q :=
  Runs.stk d (fun p e s m args below meth c T locs L hx hd hP X t r => XS.isub (g := mkF m pc L (.int y :: .int x :: S)) X.here hx rfl hd rfl r) h
theorem Runs.imul {x y : Int32} (d : DAt M pc .imul 1 q) (h : Runs C M k n q P (.int (x * y) :: S) G Q) : Runs C M k n pc P (.int y :: .int x :: S) G Q :=
  Runs.stk d (fun p e s m args below meth c T locs L hx hd hP X t r => XS.imul (g := mkF m pc L (.int y :: .int x :: S)) X.here hx rfl hd rfl r) h
theorem Runs.iand {x y : Int32} (d : DAt M pc .iand 1 q) (h : Runs C M k n q P (.int (x &&& y) :: S) G Q) : Runs C M k n pc P (.int y :: .int x :: S) G Q :=
  Runs.stk d (fun p e s m args below meth c T locs L hx hd hP X t r => XS.iand (g := mkF m pc L (.int y :: .int x :: S)) X.here hx rfl hd rfl r) h
theorem Runs.ior {x y : Int32} (d : DAt M pc .ior 1 q) (h : Runs C M k n q P (.int (x ||| y) :: S) G Q) : Runs C M k n pc P (.int y :: .int x :: S) G Q :=
  Runs.stk d (fun p e s m args below meth c T locs L hx hd hP X t r => XS.ior (g := mkF m pc L (.int y :: .int x :: S)) X.here hx rfl hd rfl r) h
theorem Runs.ixor {x y : Int32} (d : DAt M pc .ixor 1 q) (h : Runs C M k n q P (.int (x ^^^ y) :: S) G Q) : Runs C M k n pc P (.int y :: .int x :: S) G Q :=
  Runs.stk d (fun p e s m args below meth c T locs L hx hd hP X t r => XS.ixor (g := mkF m pc L (.int y :: .int x :: S)) X.here hx rfl hd rfl r) h
theorem Runs.ladd {x y : Int64} (d : DAt M pc .ladd 1 q) (h : Runs C M k n q P (.long (x + y) :: S) G Q) : Runs C M k n pc P (.long y :: .long x :: S) G Q :=
  Runs.stk d (fun p e s m args below meth c T locs L hx hd hP X t r => XS.ladd (g := mkF m pc L (.long y :: .long x :: S)) X.here hx rfl hd rfl r) h
theorem Runs.lsub {x y : Int64} (d : DAt M pc .lsub 1 q) (h : Runs C M k n q P (.long (x - y) :: S) G Q) : Runs C M k n pc P (.long y :: .long x :: S) G Q :=
  Runs.stk d (fun p e s m args below meth c T locs L hx hd hP X t r => XS.lsub (g := mkF m pc L (.long y :: .long x :: S)) X.here hx rfl hd rfl r) h
theorem Runs.lmul {x y : Int64} (d : DAt M pc .lmul 1 q) (h : Runs C M k n q P (.long (x * y) :: S) G Q) : Runs C M k n pc P (.long y :: .long x :: S) G Q :=
  Runs.stk d (fun p e s m args below meth c T locs L hx hd hP X t r => XS.lmul (g := mkF m pc L (.long y :: .long x :: S)) X.here hx rfl hd rfl r) h
theorem Runs.land {x y : Int64} (d : DAt M pc .land 1 q) (h : Runs C M k n q P (.long (x &&& y) :: S) G Q) : Runs C M k n pc P (.long y :: .long x :: S) G Q :=
  Runs.stk d (fun p e s m args below meth c T locs L hx hd hP X t r => XS.land (g := mkF m pc L (.long y :: .long x :: S)) X.here hx rfl hd rfl r) h
theorem Runs.lor {x y : Int64} (d : DAt M pc .lor 1 q) (h : Runs C M k n q P (.long (x ||| y) :: S) G Q) : Runs C M k n pc P (.long y :: .long x :: S) G Q :=
  Runs.stk d (fun p e s m args below meth c T locs L hx hd hP X t r => XS.lor (g := mkF m pc L (.long y :: .long x :: S)) X.here hx rfl hd rfl r) h
theorem Runs.lxor {x y : Int64} (d : DAt M pc .lxor 1 q) (h : Runs C M k n q P (.long (x ^^^ y) :: S) G Q) : Runs C M k n pc P (.long y :: .long x :: S) G Q :=
  Runs.stk d (fun p e s m args below meth c T locs L hx hd hP X t r => XS.lxor (g := mkF m pc L (.long y :: .long x :: S)) X.here hx rfl hd rfl r) h
theorem Runs.ishl {x : Int32} {y : Int32} (d : DAt M pc .ishl 1 q) (h : Runs C M k n q P (.int (x <<< (y &&& 31)) :: S) G Q) : Runs C M k n pc P (.int y :: .int x :: S) G Q :=
  Runs.stk d (fun p e s m args below meth c T locs L hx hd hP X t r => XS.ishl (g := mkF m pc L (.int y :: .int x :: S)) X.here hx rfl hd rfl r) h
theorem Runs.ishr {x : Int32} {y : Int32} (d : DAt M pc .ishr 1 q) (h : Runs C M k n q P (.int (x >>> (y &&& 31)) :: S) G Q) : Runs C M k n pc P (.int y :: .int x :: S) G Q :=
  Runs.stk d (fun p e s m args below meth c T locs L hx hd hP X t r => XS.ishr (g := mkF m pc L (.int y :: .int x :: S)) X.here hx rfl hd rfl r) h
theorem Runs.iushr {x : Int32} {y : Int32} (d : DAt M pc .iushr 1 q) (h : Runs C M k n q P (.int ((x.toUInt32 >>> (y &&& 31).toUInt32).toInt32) :: S) G Q) : Runs C M k n pc P (.int y :: .int x :: S) G Q :=
  Runs.stk d (fun p e s m args below meth c T locs L hx hd hP X t r => XS.iushr (g := mkF m pc L (.int y :: .int x :: S)) X.here hx rfl hd rfl r) h
theorem Runs.lshl {x : Int64} {y : Int32} (d : DAt M pc .lshl 1 q) (h : Runs C M k n q P (.long (x <<< (y &&& 0x3f).toInt64) :: S) G Q) : Runs C M k n pc P (.int y :: .long x :: S) G Q :=
  Runs.stk d (fun p e s m args below meth c T locs L hx hd hP X t r => XS.lshl (g := mkF m pc L (.int y :: .long x :: S)) X.here hx rfl hd rfl r) h
theorem Runs.lshr {x : Int64} {y : Int32} (d : DAt M pc .lshr 1 q) (h : Runs C M k n q P (.long (x >>> (y &&& 0x3f).toInt64) :: S) G Q) : Runs C M k n pc P (.int y :: .long x :: S) G Q :=
  Runs.stk d (fun p e s m args below meth c T locs L hx hd hP X t r => XS.lshr (g := mkF m pc L (.int y :: .long x :: S)) X.here hx rfl hd rfl r) h
theorem Runs.lushr {x : Int64} {y : Int32} (d : DAt M pc .lushr 1 q) (h : Runs C M k n q P (.long ((x.toUInt64 >>> (y &&& 0x3f).toInt64.toUInt64).toInt64) :: S) G Q) : Runs C M k n pc P (.int y :: .long x :: S) G Q :=
  Runs.stk d (fun p e s m args below meth c T locs L hx hd hP X t r => XS.lushr (g := mkF m pc L (.int y :: .long x :: S)) X.here hx rfl hd rfl r) h
theorem Runs.ineg {x : Int32} (d : DAt M pc .ineg 1 q) (h : Runs C M k n q P (.int (-x) :: S) G Q) : Runs C M k n pc P (.int x :: S) G Q :=
  Runs.stk d (fun p e s m args below meth c T locs L hx hd hP X t r => XS.ineg (g := mkF m pc L (.int x :: S)) X.here hx rfl hd rfl r) h
theorem Runs.lneg {x : Int64} (d : DAt M pc .lneg 1 q) (h : Runs C M k n q P (.long (-x) :: S) G Q) : Runs C M k n pc P (.long x :: S) G Q :=
  Runs.stk d (fun p e s m args below meth c T locs L hx hd hP X t r => XS.lneg (g := mkF m pc L (.long x :: S)) X.here hx rfl hd rfl r) h
theorem Runs.i2l {x : Int32} (d : DAt M pc .i2l 1 q) (h : Runs C M k n q P (.long x.toInt64 :: S) G Q) : Runs C M k n pc P (.int x :: S) G Q :=
  Runs.stk d (fun p e s m args below meth c T locs L hx hd hP X t r => XS.i2l (g := mkF m pc L (.int x :: S)) X.here hx rfl hd rfl r) h
theorem Runs.l2i {x : Int64} (d : DAt M pc .l2i 1 q) (h : Runs C M k n q P (.int x.toInt32 :: S) G Q) : Runs C M k n pc P (.long x :: S) G Q :=
  Runs.stk d (fun p e s m args below meth c T locs L hx hd hP X t r => XS.l2i (g := mkF m pc L (.long x :: S)) X.here hx rfl hd rfl r) h
theorem Runs.lcmp {x y : Int64} (d : DAt M pc .lcmp 1 q) (h : Runs C M k n q P (.int (lcmpW x y) :: S) G Q) : Runs C M k n pc P (.long y :: .long x :: S) G Q :=
  Runs.stk d (fun p e s m args below meth c T locs L hx hd hP X t r => XS.lcmp (g := mkF m pc L (.long y :: .long x :: S)) X.here hx rfl hd rfl r) h
theorem Runs.idiv {x y : Int32} (d : DAt M pc .idiv 1 q) (hy : y ≠ 0) (h : Runs C M k n q P (.int (x / y) :: S) G Q) : Runs C M k n pc P (.int y :: .int x :: S) G Q :=
  Runs.stk d (fun p e s m args below meth c T locs L hx hd hP X t r => XS.idiv (g := mkF m pc L (.int y :: .int x :: S)) X.here hx rfl hd rfl hy r) h
theorem Runs.irem {x y : Int32} (d : DAt M pc .irem 1 q) (hy : y ≠ 0) (h : Runs C M k n q P (.int (x % y) :: S) G Q) : Runs C M k n pc P (.int y :: .int x :: S) G Q :=
  Runs.stk d (fun p e s m args below meth c T locs L hx hd hP X t r => iremM (g := mkF m pc L (.int y :: .int x :: S)) X hx rfl hd rfl hy r) h
theorem Runs.dup {x : Value} (d : DAt M pc .dup 1 q) (hc : x.category = 1) (h : Runs C M k n q P (x :: x :: S) G Q) : Runs C M k n pc P (x :: S) G Q :=
  Runs.stk d (fun p e s m args below meth c T locs L hx hd hP X t r => XS.dup (g := mkF m pc L (x :: S)) X.here hx rfl hd rfl hc r) h
theorem Runs.dup2 {x y : Value} (d : DAt M pc .dup2 1 q) (hc : x.category = 1) (hc' : y.category = 1) (h : Runs C M k n q P (x :: y :: x :: y :: S) G Q) : Runs C M k n pc P (x :: y :: S) G Q :=
  Runs.stk d (fun p e s m args below meth c T locs L hx hd hP X t r => Jvm.Free.XT.dup2 (g := mkF m pc L (x :: y :: S)) X.here hx rfl hd rfl hc hc' r) h
theorem Runs.pop {x : Value} (d : DAt M pc .pop 1 q) (hc : x.category = 1) (h : Runs C M k n q P S G Q) : Runs C M k n pc P (x :: S) G Q :=
  Runs.stk d (fun p e s m args below meth c T locs L hx hd hP X t r => XS.pop (g := mkF m pc L (x :: S)) X.here hx rfl hd rfl hc r) h
theorem Runs.goto {o : Int} {pc' : Nat} (d : DAt M pc (.goto o) 3 q) (ho : 0 ≤ (pc : Int) + o ∧ ((pc : Int) + o).toNat = pc') (h : Runs C M k n pc' P S G Q) : Runs C M k n pc P S G Q :=
  Runs.pure d (fun p e s m args below meth c T locs L hw hx hown hZ hd hP hsz _ X => ⟨L, hP, hsz, fun t r => XS.goto (g := mkF m pc L S) X.here hx rfl (pc0 := pc) rfl hd ho.1 ho.2 r⟩) h
theorem Runs.ifY {cd : ClassFile.Cond} {x : Int32} {o : Int} {pc' : Nat} (d : DAt M pc (.ifCond cd o) 3 q) (hc : if_icmp.holds cd x 0 = true) (ho : 0 ≤ (pc : Int) + o ∧ ((pc : Int) + o).toNat = pc') (h : Runs C M k n pc' P S G Q) : Runs C M k n pc P (.int x :: S) G Q :=
  Runs.pure d (fun p e s m args below meth c T locs L hw hx hown hZ hd hP hsz _ X => ⟨L, hP, hsz, fun t r => XS.ifYes (g := mkF m pc L (.int x :: S)) X.here hx rfl (pc0 := pc) rfl hd rfl ((if0 _ _).trans hc) ho.1 ho.2 r⟩) h
theorem Runs.ifN {cd : ClassFile.Cond} {x : Int32} {o : Int} (d : DAt M pc (.ifCond cd o) 3 q) (hc : if_icmp.holds cd x 0 = false) (h : Runs C M k n q P S G Q) : Runs C M k n pc P (.int x :: S) G Q :=
  Runs.stk d (fun p e s m args below meth c T locs L hx hd hP X t r => XS.ifNo (g := mkF m pc L (.int x :: S)) X.here hx rfl hd rfl ((if0 _ _).trans hc) r) h
theorem Runs.icY {cd : ClassFile.Cond} {x y : Int32} {o : Int} {pc' : Nat} (d : DAt M pc (.if_icmp cd o) 3 q) (hc : if_icmp.holds cd x y = true) (ho : 0 ≤ (pc : Int) + o ∧ ((pc : Int) + o).toNat = pc') (h : Runs C M k n pc' P S G Q) : Runs C M k n pc P (.int y :: .int x :: S) G Q :=
  Runs.pure d (fun p e s m args below meth c T locs L hw hx hown hZ hd hP hsz _ X => ⟨L, hP, hsz, fun t r => XS.icmpYes (g := mkF m pc L (.int y :: .int x :: S)) X.here hx rfl (pc0 := pc) rfl hd rfl hc ho.1 ho.2 r⟩) h
theorem Runs.icN {cd : ClassFile.Cond} {x y : Int32} {o : Int} (d : DAt M pc (.if_icmp cd o) 3 q) (hc : if_icmp.holds cd x y = false) (h : Runs C M k n q P S G Q) : Runs C M k n pc P (.int y :: .int x :: S) G Q :=
  Runs.stk d (fun p e s m args below meth c T locs L hx hd hP X t r => XS.icmpNo (g := mkF m pc L (.int y :: .int x :: S)) X.here hx rfl hd rfl hc r) h
theorem Runs.tswI {dflt low high : Int} {offs : Array Int} {len : Nat} {o : Int} {pc' : Nat} {i : Int32} (d : DAt M pc (.tableswitch dflt low high offs) len q) (hin : ¬ (i.toInt < low ∨ i.toInt > high)) (hoff : offs[(i.toInt - low).toNat]? = some o) (ho : 0 ≤ (pc : Int) + o ∧ ((pc : Int) + o).toNat = pc') (h : Runs C M k n pc' P S G Q) : Runs C M k n pc P (.int i :: S) G Q :=
  Runs.pure d (fun p e s m args below meth c T locs L hw hx hown hZ hd hP hsz _ X => ⟨L, hP, hsz, fun t r => XS.tswIn (g := mkF m pc L (.int i :: S)) X.here hx rfl (pc0 := pc) rfl hd rfl hin hoff ho.1 ho.2 r⟩) h
theorem Runs.tswO {dflt low high : Int} {offs : Array Int} {len : Nat} {pc' : Nat} {i : Int32} (d : DAt M pc (.tableswitch dflt low high offs) len q) (hout : i.toInt < low ∨ i.toInt > high) (ho : 0 ≤ (pc : Int) + dflt ∧ ((pc : Int) + dflt).toNat = pc') (h : Runs C M k n pc' P S G Q) : Runs C M k n pc P (.int i :: S) G Q :=
  Runs.pure d (fun p e s m args below meth c T locs L hw hx hown hZ hd hP hsz _ X => ⟨L, hP, hsz, fun t r => XS.tswOut (g := mkF m pc L (.int i :: S)) X.here hx rfl (pc0 := pc) rfl hd rfl hout ho.1 ho.2 r⟩) h
theorem Runs.istoreN {j : Fin 4} {x : Int32} (d : DAt M pc (.istore_n j) 1 q) (hi : j.val < M.2.2.1) (hP' : ps1 P j.val (.int x) = P') (h : Runs C M k n q P' S G Q) : Runs C M k n pc P (.int x :: S) G Q := by
  have hq := d.2
  subst hq hP'
  refine Runs.pure d (fun p e s m args below meth c T locs L hw hx hown hZ hd hP hsz _ X => ?_) h
  obtain ⟨L', e1, e2, e3⟩ := hP.store1 (i := j.val) (v := .int x) (by omega) rfl
  exact ⟨L', e3, e2.trans hsz, fun t r => XS.istoreN (g := mkF m pc L (.int x :: S)) X.here hx rfl hd rfl e1 r⟩
theorem Runs.istore {j : Nat} {x : Int32} (d : DAt M pc (.istore j) 2 q) (hi : j < M.2.2.1) (hP' : ps1 P j (.int x) = P') (h : Runs C M k n q P' S G Q) : Runs C M k n pc P (.int x :: S) G Q := by
  have hq := d.2
  subst hq hP'
  refine Runs.pure d (fun p e s m args below meth c T locs L hw hx hown hZ hd hP hsz _ X => ?_) h
  obtain ⟨L', e1, e2, e3⟩ := hP.store1 (i := j) (v := .int x) (by omega) rfl
  exact ⟨L', e3, e2.trans hsz, fun t r => XS.istore (g := mkF m pc L (.int x :: S)) X.here hx rfl hd rfl e1 r⟩
theorem Runs.astoreN {j : Fin 4} {x : Nat} (d : DAt M pc (.astore_n j) 1 q) (hi : j.val < M.2.2.1) (hP' : ps1 P j.val (.ref x) = P') (h : Runs C M k n q P' S G Q) : Runs C M k n pc P (.ref x :: S) G Q := by
  have hq := d.2
  subst hq hP'
  refine Runs.pure d (fun p e s m args below meth c T locs L hw hx hown hZ hd hP hsz _ X => ?_) h
  obtain ⟨L', e1, e2, e3⟩ := hP.store1 (i := j.val) (v := .ref x) (by omega) rfl
  exact ⟨L', e3, e2.trans hsz, fun t r => XS.astoreN (g := mkF m pc L (.ref x :: S)) X.here hx rfl hd rfl rfl e1 r⟩
theorem Runs.astore {j : Nat} {x : Nat} (d : DAt M pc (.astore j) 2 q) (hi : j < M.2.2.1) (hP' : ps1 P j (.ref x) = P') (h : Runs C M k n q P' S G Q) : Runs C M k n pc P (.ref x :: S) G Q := by
  have hq := d.2
  subst hq hP'
  refine Runs.pure d (fun p e s m args below meth c T locs L hw hx hown hZ hd hP hsz _ X => ?_) h
  obtain ⟨L', e1, e2, e3⟩ := hP.store1 (i := j) (v := .ref x) (by omega) rfl
  exact ⟨L', e3, e2.trans hsz, fun t r => XS.astore (g := mkF m pc L (.ref x :: S)) X.here hx rfl hd rfl rfl e1 r⟩
theorem Runs.lstoreN {j : Fin 4} {x : Int64} (d : DAt M pc (.lstore_n j) 1 q) (hi : j.val + 1 < M.2.2.1) (hP' : ps2 P j.val (.long x) = P') (h : Runs C M k n q P' S G Q) : Runs C M k n pc P (.long x :: S) G Q := by
  have hq := d.2
  subst hq hP'
  refine Runs.pure d (fun p e s m args below meth c T locs L hw hx hown hZ hd hP hsz _ X => ?_) h
  obtain ⟨L', e1, e2, e3⟩ := hP.store2 (i := j.val) (v := .long x) (by omega) rfl
  exact ⟨L', e3, e2.trans hsz, fun t r => XS.lstoreN (g := mkF m pc L (.long x :: S)) X.here hx rfl hd rfl e1 r⟩
theorem Runs.lstore {j : Nat} {x : Int64} (d : DAt M pc (.lstore j) 2 q) (hi : j + 1 < M.2.2.1) (hP' : ps2 P j (.long x) = P') (h : Runs C M k n q P' S G Q) : Runs C M k n pc P (.long x :: S) G Q := by
  have hq := d.2
  subst hq hP'
  refine Runs.pure d (fun p e s m args below meth c T locs L hw hx hown hZ hd hP hsz _ X => ?_) h
  obtain ⟨L', e1, e2, e3⟩ := hP.store2 (i := j) (v := .long x) (by omega) rfl
  exact ⟨L', e3, e2.trans hsz, fun t r => XS.lstore (g := mkF m pc L (.long x :: S)) X.here hx rfl hd rfl e1 r⟩
theorem Runs.iinc {j : Nat} {cst : Int} {x v : Int32} (d : DAt M pc (.iinc j cst) 3 q) (hv : Int32.ofInt cst = v) (hl : pget P j = vi x) (hi : j < M.2.2.1) (hP' : ps1 P j (.int (x + v)) = P') (h : Runs C M k n q P' S G Q) : Runs C M k n pc P S G Q := by
  have hq := d.2
  subst hq hP' hv
  refine Runs.pure d (fun p e s m args below meth c T locs L hw hx hown hZ hd hP hsz _ X => ?_) h
  obtain ⟨L', e1, e2, e3⟩ := hP.store1 (i := j) (v := .int (x + Int32.ofInt cst)) (by omega) rfl
  exact ⟨L', e3, e2.trans hsz, fun t r => XS.iinc (g := mkF m pc L S) X.here hx rfl hd (hP.1 _ _ hl) e1 r⟩
/-- less is known of the locals -/
def psub : Pat → Pat → Prop
  | [], _ => True
  | none :: l, _ :: l' => psub l l'
  | some s :: l, y :: l' => y = some s ∧ psub l l'
  | none :: l, [] => psub l []
  | some _ :: _, [] => False
theorem psub_get : ∀ (P P' : Pat), psub P P' → ∀ i s, pget P i = some s → pget P' i = some s
  | [], _, _, i, s, h => by simp [pget] at h
  | none :: l, _ :: l', H, 0, s, h => by simp [pget] at h
  | none :: l, _ :: l', H, i + 1, s, h => psub_get l l' H i s h
  | some x :: l, y :: l', H, 0, s, h => by rw [show y = some x from H.1]; exact h
  | some x :: l, y :: l', H, i + 1, s, h => psub_get l l' H.2 i s h
  | none :: l, [], H, 0, s, h => by simp [pget] at h
  | none :: l, [], H, i + 1, s, h => by have := psub_get l [] H i s h; simp [pget] at this
  | some _ :: _, [], H, _, _, _ => H.elim
theorem Runs.weak (hP : psub P' P) (h : Runs C M k n pc P' S G Q) : Runs C M k n pc P S G Q := by
  intro hw p e s m args below meth c T locs L hx hby hml hret hnm hown hZ hf
  exact h hw p e s m args below meth c T locs L hx hby hml hret hnm hown hZ ⟨fun i s hi => hf.1 i s (psub_get _ _ hP i s hi), hf.2⟩
theorem Runs.swap {top : Nat} {x y : Nat × Nat × Rec} {H : List (Nat × Nat × Rec)} (h : Runs C M k n pc P S (top, y :: x :: H) Q) : Runs C M k n pc P S (top, x :: y :: H) Q := by
  intro hw p e s m args below meth c T locs L hx hby hml hret hnm hown hZ hf hsz X hR hF
  exact h hw p e s m args below meth c T locs L hx hby hml hret hnm hown hZ hf hsz X hR.swap hF
end Rules
/- the steps that touch the heap -/
section Made
variable {p : Program} {l : Launch} {e : Env} {R : Room} {s : State} {m : MethodId} {args : Array Value} {below : List Frame} {meth : Method} {c : Code} {T : State} {locs : List Loc} {cells slots : Nat} {Z : State} {a0 : Array Value}
theorem ext_push (h : Heap) (x : Cell) : Ext h (h.push x) := ⟨by simp, fun a c q => by rw [Array.getElem?_push_lt (Array.getElem?_eq_some_iff.mp q).1]; exact (Array.getElem?_eq_getElem _).symm.trans q⟩
/-- 'new', with the heap's size behind it -/
theorem new1 (X : Stand p l e R s m args below meth c T locs cells slots) (hx : p.tables.exec = Jvm.exec) (hZ : Z.Warmed39 s.vm) {own C : String} {index n : Nat} (hown : s.vm.findClass own = some m.cls) (w : (Jvm.Cond.classLink own index C).before a0 Z = true) (wi : (Jvm.Cond.instantiable C n).before a0 Z = true) (wz : (Jvm.Cond.initialized C).before a0 Z = true)
    {g : JFrame} (hg : g.method = m) (hd : decode c.code g.pc = .ok (.new index, 3)) (hc : cells + 1 ≤ R.cells) (hl : slots + n ≤ R.slots) :
    ∃ T', Stand p l e R s m args below meth c T' locs (cells + 1) (slots + n) ∧ T'.heap.size = T.heap.size + 1 ∧ Ext T.heap T'.heap ∧ Exa Z T'.heap T.heap.size C ∧ (∀ {O nm d : String} {ty : FieldType}, Laid Z a0 C O nm d → parseFieldDescriptor d = some ty → Fld Z T'.heap T.heap.size O nm d (defaultValue ty)) ∧
      ∀ target, Steps p.tables e below (T'.setTop { g with pc := g.pc + 3, stack := .ref T.heap.size :: g.stack }) target → Steps p.tables e below (T.setTop g) target := by
  obtain ⟨vm', cC, kC, h1, h2, h3, h4, X', st⟩ := X.newCold hx hown (mv hZ w) (mv hZ wi) (mv hZ wz) hg hd hc hl
  rw [hZ.alike.findClass] at h1
  obtain ⟨kZ, z1, -⟩ := Vm.findClass_spec h1
  obtain ⟨k', z2, z3⟩ := hZ.alike.2.2 _ _ z1
  have ek : kC.instanceTypes = kZ.instanceTypes := by rw [Option.some.inj (h2.symm.trans z2), z3]
  obtain ⟨cell, hcell⟩ : ∃ cell : Cell, cell = { cls := cC, slots := kC.instanceTypes.map defaultValue, vm := .none } := ⟨_, rfl⟩
  rw [← hcell] at X' st
  have hp : ((T.setVm vm').pushCell cell).heap = T.heap.push cell := rfl
  have at' : (T.heap.push cell)[T.heap.size]? = some cell := by simp
  refine ⟨_, X', by rw [hp]; simp, by rw [hp]; exact ext_push _ _, ?_, fun {O nm d ty} L ht => ?_, st⟩
  · rw [hp]; exact ⟨cell, kZ, at', by rw [hcell]; exact h1, by rw [hcell]; exact z1, by rw [hcell]; rfl, fun _ => by rw [hcell]; simp [ek]⟩
  · rw [hp]
    obtain ⟨c1, k1, cf, kf, i, f, a1, a2, a3, a4, a5, a6, -⟩ := L.spec
    cases h1.symm.trans a1
    cases z1.symm.trans a2
    refine ⟨cell, cf, kf, i, f, at', a3, a4, by rw [hcell]; simp, by rw [hcell]; rfl, by rw [hcell]; exact a5, ?_⟩
    rw [hcell]; simp [ek, a6, (State.fieldFound?_type a3 ht).2]
theorem newArr1 (X : Stand p l e R s m args below meth c T locs cells slots) (hx : p.tables.exec = Jvm.exec) (hZ : Z.Warmed39 s.vm) {aty : ArrayType} (w : (Jvm.Cond.arrayClass (newarray.typeOf aty)).before a0 Z = true) {g : JFrame} (hg : g.method = m) (hd : decode c.code g.pc = .ok (.newarray aty, 2)) {n : Int32} {rest : List Value} (hs : g.stack = .int n :: rest)
    (hn : ¬ n < 0) (hb : n.toNatClampNeg * 8 ≤ 536870912) (hc : cells + 1 ≤ R.cells) (hl : slots + n.toNatClampNeg ≤ R.slots) :
    ∃ T' cA, Stand p l e R s m args below meth c T' locs (cells + 1) (slots + n.toNatClampNeg) ∧ T'.heap.size = T.heap.size + 1 ∧ Ext T.heap T'.heap ∧ Arr Z T'.heap T.heap.size (newA cA (newarray.typeOf aty) n) (newarray.typeOf aty) ∧
      ∀ target, Steps p.tables e below (T'.setTop { g with pc := g.pc + 2, stack := .ref T.heap.size :: rest }) target → Steps p.tables e below (T.setTop g) target := by
  have hcb : componentBytes (newarray.typeOf aty) ≤ 8 := by cases aty <;> decide
  obtain ⟨cA, kA, comp, h1, h2, h3, X', st⟩ := X.newarrayPrim hx (mvA hZ w) hg hd hs hn (Nat.le_trans (Nat.mul_le_mul_left _ hcb) hb) hc hl
  rw [hZ.alike.findClass] at h1
  obtain ⟨kZ, z1, -⟩ := Vm.findClass_spec h1
  obtain ⟨k', z2, z3⟩ := hZ.alike.2.2 _ _ z1
  have ek : kA.kind = kZ.kind := by rw [Option.some.inj (h2.symm.trans z2), z3]
  have hp : (T.pushCell (newA cA (newarray.typeOf aty) n)).heap = T.heap.push (newA cA (newarray.typeOf aty) n) := rfl
  refine ⟨T.pushCell (newA cA (newarray.typeOf aty) n), cA, X', by rw [hp]; simp, by rw [hp]; exact ext_push _ _, ?_, st⟩
  rw [hp]
  exact ⟨by simp, ⟨by simp [newA], kZ, z1, comp, by rw [← ek]; exact h3⟩, by simp [newA]⟩
end Made
section Heap
variable {C : Ctx} {M : Bdy} {k n pc q : Nat} {P P' : Pat} {S S' : List Value} {G : AH} {Q : Option Value → AH → Prop} {top : Nat} {a : Nat} {qq j idx : Nat} {ob : Rec} {H : List (Nat × Nat × Rec)} {nm ds : String}
theorem Runs.getI (d : DAt M pc (.getfield idx) 3 q) (w : Jvm.Cond.fieldLink M.1.cls idx K.1 nm ds ∈ tables_1) (hk : K.2.1[j]? = some (nm, ds)) (h : Runs C M k n q P (.int (gI ob j) :: S) (top, (a, qq, ob) :: H) Q) : Runs C M k n pc P (.ref a :: S) (top, (a, qq, ob) :: H) Q := by
  intro hw p e s m args below meth c T locs L hx hby hml hret hnm hown hZ hf hsz X hR hF
  have hq := d.2
  subst hq
  obtain ⟨T1, X1, e1, st1⟩ := getF X hx hZ hown (host := "") (Or.inl (hw _ w)) Via.refl rfl (hR.objs.2.2.2.1 j _ hk) (g := mkF m pc L (.ref a :: S)) rfl rfl (hb hby d.1)
  obtain ⟨T', locs', k', n', r, G', g1, g2, g3, g4, g5, g6, g7, g8⟩ := h hw p e s m args below meth c T1 locs L hx hby hml hret hnm hown hZ hf hsz X1 (by rw [e1]; exact hR) hF
  exact ⟨T', locs', k', n', r, G', g1, g2, g3, g4, g5, g6, g7, fun fs hr => st1 _ (g8 fs hr)⟩
theorem Runs.getA {ty : FieldType} {len : Int32} (d : DAt M pc (.getfield idx) 3 q) (hk : K.2.2[j]? = some (nm, ty, len)) (w : Jvm.Cond.fieldLink M.1.cls idx K.1 nm (aD ty) ∈ tables_1) (hq : j < qq) (h : Runs C M k n q P (.ref (a + 1 + j) :: S) (top, (a, qq, ob) :: H) Q) : Runs C M k n pc P (.ref a :: S) (top, (a, qq, ob) :: H) Q := by
  intro hw p e s m args below meth c T locs L hx hby hml hret hnm hown hZ hf hsz X hR hF
  have hqq := d.2
  subst hqq
  obtain ⟨T1, X1, e1, st1⟩ := getF X hx hZ hown (host := "") (Or.inl (hw _ w)) Via.refl rfl (hR.objs.2.2.2.2.1 j _ hk hq).1 (g := mkF m pc L (.ref a :: S)) rfl rfl (hb hby d.1)
  obtain ⟨T', locs', k', n', r, G', g1, g2, g3, g4, g5, g6, g7, g8⟩ := h hw p e s m args below meth c T1 locs L hx hby hml hret hnm hown hZ hf hsz X1 (by rw [e1]; exact hR) hF
  exact ⟨T', locs', k', n', r, G', g1, g2, g3, g4, g5, g6, g7, fun fs hr => st1 _ (g8 fs hr)⟩
theorem lw_of {Z : State} {a0 : Array Value} {meth : Method} (hw : ∀ d ∈ tables_1, d.before a0 Z = true) {C O n d own : String} (h : Jvm.Cond.lays C O n d ∈ tables_1 ∨ Jvm.Cond.laysFinal C O n d ∈ tables_1) (hc : Jvm.Cond.lays C O n d ∈ tables_1 ∨ (own = O ∧ meth.name = "<init>")) : (Jvm.Cond.lays C O n d).before a0 Z = true ∨ ((Jvm.Cond.laysFinal C O n d).before a0 Z = true ∧ own = O ∧ meth.name = "<init>") := by
  rcases hc with hc | hc
  · exact Or.inl (hw _ hc)
  · exact h.imp (hw _) (fun u => ⟨hw _ u, hc⟩)
/-- a field that may be written here: not final, or in a constructor of its class -/
def Mine (M : Bdy) (nm ds : String) : Prop := Jvm.Cond.lays K.1 K.1 nm ds ∈ tables_1 ∨ (M.1.cls = K.1 ∧ M.1.name = "<init>")
theorem Runs.putI {x : Int32} (d : DAt M pc (.putfield idx) 3 q) (w : Jvm.Cond.fieldLink M.1.cls idx K.1 nm "I" ∈ tables_1) (hk : K.2.1[j]? = some (nm, "I")) (hm : Mine M nm "I") (h : Runs C M k n q P S (top, (a, qq, sI ob j x) :: H) Q) : Runs C M k n pc P (.int x :: .ref a :: S) (top, (a, qq, ob) :: H) Q := by
  intro hw p e s m args below meth c T locs L hx hby hml hret hnm hown hZ hf hsz X hR hF
  have hqq := d.2
  subst hqq
  obtain ⟨T1, h1, X1, e1, W1, st1⟩ := putF X hx hZ hown (host := "") (Or.inl (hw _ w)) Via.refl rfl (hR.objs.2.2.2.1 j _ hk) hR.objs.2.2.1 (lw_of hw ((All.mem kS (List.mem_of_getElem? hk)).1) (hm.imp id (fun u => ⟨u.1, hnm.trans u.2⟩))) (hw _ kI) (ty := .int) (by decide) rfl rfl (g := mkF m pc L (.int x :: .ref a :: S)) rfl rfl (hb hby d.1)
  obtain ⟨T', locs', k', n', r, G', g1, g2, g3, g4, g5, g6, g7, g8⟩ := h hw p e s m args below meth c T1 _ L hx hby hml hret hnm hown hZ hf hsz X1 (by rw [e1]; exact hR.putI hw hk W1) (Fr.snoc X1 hF hR.objs.1)
  exact ⟨T', locs', k', n', r, G', g1, g2, g3, g4, g5, g6, g7, fun fs hr => st1 _ (g8 fs hr)⟩
theorem Runs.putZ {x y : Int32} (d : DAt M pc (.putfield idx) 3 q) (w : Jvm.Cond.fieldLink M.1.cls idx K.1 nm "Z" ∈ tables_1) (hk : K.2.1[j]? = some (nm, "Z")) (hm : Mine M nm "Z") (hy : nar .boolean x = y) (h : Runs C M k n q P S (top, (a, qq, sI ob j y) :: H) Q) : Runs C M k n pc P (.int x :: .ref a :: S) (top, (a, qq, ob) :: H) Q := by
  subst hy
  intro hw p e s m args below meth c T locs L hx hby hml hret hnm hown hZ hf hsz X hR hF
  have hqq := d.2
  subst hqq
  obtain ⟨T1, h1, X1, e1, W1, st1⟩ := putFN X hx hZ hown (hw _ w) Via.refl rfl (hR.objs.2.2.2.1 j _ hk) hR.objs.2.2.1 (lw_of hw ((All.mem kS (List.mem_of_getElem? hk)).1) (hm.imp id (fun u => ⟨u.1, hnm.trans u.2⟩))) (hw _ kI) (ty := .boolean) (v' := .int (nar .boolean x)) (by decide) rfl (fits_nar_bool _) (g := mkF m pc L (.int x :: .ref a :: S)) rfl rfl (hb hby d.1)
  obtain ⟨T', locs', k', n', r, G', g1, g2, g3, g4, g5, g6, g7, g8⟩ := h hw p e s m args below meth c T1 _ L hx hby hml hret hnm hown hZ hf hsz X1 (by rw [e1]; exact hR.putI hw hk W1) (Fr.snoc X1 hF hR.objs.1)
  exact ⟨T', locs', k', n', r, G', g1, g2, g3, g4, g5, g6, g7, fun fs hr => st1 _ (g8 fs hr)⟩
theorem Runs.ialoadA {i len : Int32} (d : DAt M pc .iaload 1 q) (hk : K.2.2[j]? = some (nm, .int, len)) (hq : j < qq) (hi : ¬ i < 0 ∧ i < len) (h : Runs C M k n q P (.int (gA ob j i) :: S) (top, (a, qq, ob) :: H) Q) : Runs C M k n pc P (.int i :: .ref (a + 1 + j) :: S) (top, (a, qq, ob) :: H) Q := by
  have hqq := d.2
  subst hqq
  refine Runs.pure d (fun p e s m args below meth c T locs L hw hx hown hZ hd hP hsz hR X => ⟨L, hP, hsz, fun t r => ?_⟩) h
  obtain ⟨cl, A, Sz, V⟩ := (hR.objs.2.2.2.2.1 j _ hk hq).2
  exact X.iaload hx (j := i) (v := .int (gA ob j i)) A.1 (State.isArrayOf_alike hZ.alike A.2.1) A.2.2 (inb_of Sz hi) (V i hi.1 hi.2) (g := mkF m pc L (.int i :: .ref (a + 1 + j) :: S)) rfl rfl hd _ r
theorem Runs.baloadA {i len : Int32} (d : DAt M pc .baload 1 q) (hk : K.2.2[j]? = some (nm, .boolean, len)) (hq : j < qq) (hi : ¬ i < 0 ∧ i < len) (h : Runs C M k n q P (.int (gA ob j i) :: S) (top, (a, qq, ob) :: H) Q) : Runs C M k n pc P (.int i :: .ref (a + 1 + j) :: S) (top, (a, qq, ob) :: H) Q := by
  have hqq := d.2
  subst hqq
  refine Runs.pure d (fun p e s m args below meth c T locs L hw hx hown hZ hd hP hsz hR X => ⟨L, hP, hsz, fun t r => ?_⟩) h
  obtain ⟨cl, A, Sz, V⟩ := (hR.objs.2.2.2.2.1 j _ hk hq).2
  exact X.baloadBooleans hx (j := i) (v := .int (gA ob j i)) A.1 (State.isArrayOf_alike hZ.alike A.2.1) A.2.2 (inb_of Sz hi) (V i hi.1 hi.2) (g := mkF m pc L (.int i :: .ref (a + 1 + j) :: S)) rfl rfl hd _ r
theorem Runs.laloadA {i len : Int32} (d : DAt M pc .laload 1 q) (hk : K.2.2[j]? = some (nm, .long, len)) (hq : j < qq) (hi : ¬ i < 0 ∧ i < len) (h : Runs C M k n q P (.long (gJ ob j i) :: S) (top, (a, qq, ob) :: H) Q) : Runs C M k n pc P (.int i :: .ref (a + 1 + j) :: S) (top, (a, qq, ob) :: H) Q := by
  have hqq := d.2
  subst hqq
  refine Runs.pure d (fun p e s m args below meth c T locs L hw hx hown hZ hd hP hsz hR X => ⟨L, hP, hsz, fun t r => ?_⟩) h
  obtain ⟨cl, A, Sz, V⟩ := (hR.objs.2.2.2.2.1 j _ hk hq).2
  exact X.laload hx (j := i) (v := .long (gJ ob j i)) A.1 (State.isArrayOf_alike hZ.alike A.2.1) A.2.2 (inb_of Sz hi) (V i hi.1 hi.2) (g := mkF m pc L (.int i :: .ref (a + 1 + j) :: S)) rfl rfl hd _ r
theorem Runs.iastoreA {i x len : Int32} (d : DAt M pc .iastore 1 q) (hk : K.2.2[j]? = some (nm, .int, len)) (hq : j < qq) (hi : ¬ i < 0 ∧ i < len) (h : Runs C M k n q P S (top, (a, qq, sA ob j i x) :: H) Q) : Runs C M k n pc P (.int x :: .int i :: .ref (a + 1 + j) :: S) (top, (a, qq, ob) :: H) Q := by
  intro hw p e s m args below meth c T locs L hx hby hml hret hnm hown hZ hf hsz X hR hF
  have hqq := d.2
  subst hqq
  obtain ⟨cl, A, Sz, V⟩ := (hR.objs.2.2.2.2.1 j _ hk hq).2
  obtain ⟨T1, h1, X1, e1, W1, st1⟩ := stI X hx hZ rfl A (j := i) (x := x) (inb_of Sz hi) (g := mkF m pc L (.int x :: .int i :: .ref (a + 1 + j) :: S)) rfl rfl (hb hby d.1)
  obtain ⟨T', locs', k', n', r, G', g1, g2, g3, g4, g5, g6, g7, g8⟩ := h hw p e s m args below meth c T1 _ L hx hby hml hret hnm hown hZ hf hsz X1 (by rw [e1]; exact hR.putA hk hq (by simp) hi W1) (Fr.snoc X1 hF (by have := hR.objs.1; omega))
  exact ⟨T', locs', k', n', r, G', g1, g2, g3, g4, g5, g6, g7, fun fs hr => st1 _ (g8 fs hr)⟩
theorem Runs.bastoreA {i x len : Int32} (d : DAt M pc .bastore 1 q) (hk : K.2.2[j]? = some (nm, .boolean, len)) (hq : j < qq) (hi : ¬ i < 0 ∧ i < len) {y : Int32} (hy : nar .boolean x = y) (h : Runs C M k n q P S (top, (a, qq, sA ob j i y) :: H) Q) : Runs C M k n pc P (.int x :: .int i :: .ref (a + 1 + j) :: S) (top, (a, qq, ob) :: H) Q := by
  subst hy
  intro hw p e s m args below meth c T locs L hx hby hml hret hnm hown hZ hf hsz X hR hF
  have hqq := d.2
  subst hqq
  obtain ⟨cl, A, Sz, V⟩ := (hR.objs.2.2.2.2.1 j _ hk hq).2
  obtain ⟨T1, h1, X1, e1, W1, st1⟩ := stZ X hx hZ rfl A (j := i) (x := x) (inb_of Sz hi) (g := mkF m pc L (.int x :: .int i :: .ref (a + 1 + j) :: S)) rfl rfl (hb hby d.1)
  obtain ⟨T', locs', k', n', r, G', g1, g2, g3, g4, g5, g6, g7, g8⟩ := h hw p e s m args below meth c T1 _ L hx hby hml hret hnm hown hZ hf hsz X1 (by rw [e1]; exact hR.putA hk hq (by simp) hi W1) (Fr.snoc X1 hF (by have := hR.objs.1; omega))
  exact ⟨T', locs', k', n', r, G', g1, g2, g3, g4, g5, g6, g7, fun fs hr => st1 _ (g8 fs hr)⟩
theorem Runs.lastoreA {i len : Int32} {x : Int64} (d : DAt M pc .lastore 1 q) (hk : K.2.2[j]? = some (nm, .long, len)) (hq : j < qq) (hi : ¬ i < 0 ∧ i < len) (h : Runs C M k n q P S (top, (a, qq, sJ ob j i x) :: H) Q) : Runs C M k n pc P (.long x :: .int i :: .ref (a + 1 + j) :: S) (top, (a, qq, ob) :: H) Q := by
  intro hw p e s m args below meth c T locs L hx hby hml hret hnm hown hZ hf hsz X hR hF
  have hqq := d.2
  subst hqq
  obtain ⟨cl, A, Sz, V⟩ := (hR.objs.2.2.2.2.1 j _ hk hq).2
  obtain ⟨T1, h1, X1, e1, W1, st1⟩ := stJ X hx hZ rfl A (j := i) (x := x) (inb_of Sz hi) (g := mkF m pc L (.long x :: .int i :: .ref (a + 1 + j) :: S)) rfl rfl (hb hby d.1)
  obtain ⟨T', locs', k', n', r, G', g1, g2, g3, g4, g5, g6, g7, g8⟩ := h hw p e s m args below meth c T1 _ L hx hby hml hret hnm hown hZ hf hsz X1 (by rw [e1]; exact hR.putJ hk hq rfl hi W1) (Fr.snoc X1 hF (by have := hR.objs.1; omega))
  exact ⟨T', locs', k', n', r, G', g1, g2, g3, g4, g5, g6, g7, fun fs hr => st1 _ (g8 fs hr)⟩
/-- the script: an array that stood before the law began -/
def ScrF (C : Ctx) (sa : Nat) (z : Int32) (f : Int32 → Int32) : Prop := ∃ cl : Cell, Scr C.2.1 C.2.1.heap sa cl z ∧ f = atv cl
theorem Runs.lenS {sa : Nat} {z : Int32} {f : Int32 → Int32} (hs : ScrF C sa z f) (d : DAt M pc .arraylength 1 q) (h : Runs C M k n q P (.int z :: S) G Q) : Runs C M k n pc P (.ref sa :: S) G Q := by
  have hqq := d.2
  subst hqq
  refine Runs.pure d (fun p e s m args below meth c T locs L hw hx hown hZ hd hP hsz hR X => ⟨L, hP, hsz, fun t r => ?_⟩) h
  obtain ⟨cl, F, -⟩ := hs
  obtain ⟨A, Sz, N, V⟩ := F.ext hR.2.1.2
  exact X.arraylength hx A.1 (State.isArrayOf_alike hZ.alike A.2.1) (g := mkF m pc L (.ref sa :: S)) rfl rfl hd _ (by rw [len_of Sz N]; exact r)
theorem Runs.ialoadS {sa : Nat} {z i : Int32} {f : Int32 → Int32} (hs : ScrF C sa z f) (d : DAt M pc .iaload 1 q) (hi : ¬ i < 0 ∧ i < z) (h : Runs C M k n q P (.int (f i) :: S) G Q) : Runs C M k n pc P (.int i :: .ref sa :: S) G Q := by
  have hqq := d.2
  subst hqq
  refine Runs.pure d (fun p e s m args below meth c T locs L hw hx hown hZ hd hP hsz hR X => ⟨L, hP, hsz, fun t r => ?_⟩) h
  obtain ⟨cl, F, rfl⟩ := hs
  obtain ⟨A, Sz, N, V⟩ := F.ext hR.2.1.2
  exact X.iaload hx (j := i) (v := .int (atv cl i)) A.1 (State.isArrayOf_alike hZ.alike A.2.1) A.2.2 (inb_of Sz hi) (V i (inb_of Sz hi)) (g := mkF m pc L (.int i :: .ref sa :: S)) rfl rfl hd _ r
/- leaving -/
theorem Runs.retI {v : Int32} (d : DAt M pc .ireturn 1 q) (hret : M.2.2.2.1 = some .int) (hk : k ≤ M.2.2.2.2.cells ∧ n ≤ M.2.2.2.2.slots) (hQ : Q (some (.int v)) G) : Runs C M k n pc P (.int v :: S) G Q := by
  intro hw p e s m args below meth c T locs L hx hby hml hr0 hnm hown hZ hf hsz X hR hF
  exact ⟨T, locs, k, n, _, G, X, hk.1, hk.2, hR, hF, hQ, (fun u => by rw [hret] at u; cases u), fun fs hr => Jvm.RoadKit.retI X hx (hr0.trans hret) (hb hby d.1) hr⟩
theorem Runs.retZ {v : Int32} (d : DAt M pc .ireturn 1 q) (hret : M.2.2.2.1 = some .boolean) (hk : k ≤ M.2.2.2.2.cells ∧ n ≤ M.2.2.2.2.slots) {y : Int32} (hy : nar .boolean v = y) (hQ : Q (some (.int y)) G) : Runs C M k n pc P (.int v :: S) G Q := by
  subst hy
  intro hw p e s m args below meth c T locs L hx hby hml hr0 hnm hown hZ hf hsz X hR hF
  exact ⟨T, locs, k, n, _, G, X, hk.1, hk.2, hR, hF, hQ, (fun u => by rw [hret] at u; cases u), fun fs hr => retN X hx (t := .boolean) (hr0.trans hret) (by simp) (hb hby d.1) hr⟩
theorem Runs.retJ {v : Int64} (d : DAt M pc .lreturn 1 q) (hret : M.2.2.2.1 = some .long) (hk : k ≤ M.2.2.2.2.cells ∧ n ≤ M.2.2.2.2.slots) (hQ : Q (some (.long v)) G) : Runs C M k n pc P (.long v :: []) G Q := by
  intro hw p e s m args below meth c T locs L hx hby hml hr0 hnm hown hZ hf hsz X hR hF
  exact ⟨T, locs, k, n, _, G, X, hk.1, hk.2, hR, hF, hQ, (fun u => by rw [hret] at u; cases u), fun fs hr => X.lreturnOut hx (hr0.trans hret) (hb hby d.1) hr⟩
theorem Runs.retV (d : DAt M pc .return_ 1 q) (hret : M.2.2.2.1 = none) (hk : k ≤ M.2.2.2.2.cells ∧ n ≤ M.2.2.2.2.slots) (hQ : Q none G) : Runs C M k n pc P [] G Q := by
  intro hw p e s m args below meth c T locs L hx hby hml hr0 hnm hown hZ hf hsz X hR hF
  exact ⟨T, locs, k, n, _, G, X, hk.1, hk.2, hR, hF, hQ, (fun _ => rfl), fun fs hr => X.returnOut hx (hr0.trans hret) (hb hby d.1) hr⟩
/- a new object, and the arrays that its constructor makes -/
theorem Runs.newK (d : DAt M pc (.new idx) 3 q) (w : Jvm.Cond.classLink M.1.cls idx K.1 ∈ tables_1) (hc : k + 1 ≤ M.2.2.2.2.cells ∧ n + kN ≤ M.2.2.2.2.slots) {k' n' : Nat} (hk' : k + 1 = k') (hn' : n + kN = n') {H : List (Nat × Nat × Rec)} (hd : ∀ x ∈ H, x.1 + x.2.1 < top) (h : Runs C M k' n' q P (.ref top :: S) (top + 1, (top, 0, zrec) :: H) Q) : Runs C M k n pc P S (top, H) Q := by
  subst hk' hn'
  intro hw p e s m args below meth c T locs L hx hby hml hr0 hnm hown hZ hf hsz X hR hF
  have hqq := d.2
  subst hqq
  obtain ⟨T2, X2, s2, E2, A2, D2, st2⟩ := new1 X hx hZ hown (hw _ w) (hw _ kI) (hw _ kZ) (g := mkF m pc L S) rfl (hb hby d.1) hc.1 hc.2
  have hs : T.heap.size = top := hR.1
  rw [hs] at A2 D2 st2 s2
  have hR2 : Rep C.2.1 C.2.2.1 T2.heap (top + 1, (top, 0, zrec) :: H) := by
    refine ⟨s2, hR.2.1.ext E2, fun x hx' => ?_, ?_⟩
    · rcases List.mem_cons.mp hx' with rfl | hx'
      · refine ⟨?_, by simp, A2, fun k nd hk => ?_, fun k t hk hq => by simp at hq, fun k t hk hq => ?_⟩
        · have := hR.2.1.2.1; rw [hR.2.1.1] at this; simp only; omega
        · rcases (All.mem kS (List.mem_of_getElem? hk)).2 with e | e
          · have := D2 (laidS hw hk) (ty := .int) (by rw [e]; decide); exact this
          · have := D2 (laidS hw hk) (ty := .boolean) (by rw [e]; decide); exact this
        · have := D2 (laidA hw hk) (pfA hk); exact this
      · obtain ⟨p1, p2, p3⟩ := hR.2.2.1 x hx'
        exact ⟨p1, by simp only at p2 ⊢; omega, p3.ext E2⟩
    · exact List.pairwise_cons.mpr ⟨fun y hy => Or.inr (hd y hy), hR.2.2.2⟩
  obtain ⟨T', locs', k', n', r, G', g1, g2, g3, g4, g5, g6, g7, g8⟩ := h hw p e s m args below meth c T2 _ L hx hby hml hr0 hnm hown hZ hf hsz X2 hR2 hF
  exact ⟨T', locs', k', n', r, G', g1, g2, g3, g4, g5, g6, g7, fun fs hr => st2 _ (g8 fs hr)⟩
/-- newarray and the putfield behind it: the next array of an object that is being made -/
theorem Runs.newArr {aty : ArrayType} {ty : FieldType} {len : Int32} {q1 : Nat} (d : DAt M pc (.newarray aty) 2 q1) (d' : DAt M q1 (.putfield idx) 3 q) (hk : K.2.2[j]? = some (nm, ty, len)) (w : Jvm.Cond.fieldLink M.1.cls idx K.1 nm (aD ty) ∈ tables_1) (ht : newarray.typeOf aty = ty) (wa : Jvm.Cond.arrayClass ty ∈ tables_1) (hm : Mine M nm (aD ty))
    (htop : top = a + 1 + j) (hlen : ¬ len < 0 ∧ len.toNatClampNeg * 8 ≤ 536870912) (hc : k + 1 ≤ M.2.2.2.2.cells ∧ n + len.toNatClampNeg ≤ M.2.2.2.2.slots) (hz : (∀ i, ob.2.1 j i = 0) ∧ (∀ i, ob.2.2 j i = 0)) {j' top' k' n' : Nat} (hj' : j + 1 = j') (ht' : top + 1 = top') (hk' : k + 1 = k') (hn' : n + len.toNatClampNeg = n')
    (h : Runs C M k' n' q P S (top', (a, j', ob) :: H) Q) : Runs C M k n pc P (.int len :: .ref a :: S) (top, (a, j, ob) :: H) Q := by
  subst hj' ht' hk' hn'
  intro hw p e s m args below meth c T locs L hx hby hml hr0 hnm hown hZ hf hsz X hR hF
  have hqq := d.2
  have hqq' := d'.2
  subst hqq hqq' ht
  obtain ⟨T1, cA, X1, s1, E1, A1, st1⟩ := newArr1 X hx hZ (hw _ wa) (g := mkF m pc L (.int len :: .ref a :: S)) rfl (hb hby d.1) rfl hlen.1 hlen.2 hc.1 hc.2
  have hs : T.heap.size = top := hR.1
  rw [hs] at A1 st1 s1
  have O1 := hR.objs.2.2.ext E1
  obtain ⟨T2, h2, X2, e2, W2, st2⟩ := putF X1 hx hZ hown (host := "") (Or.inl (hw _ w)) Via.refl rfl (O1.2.2.2 j _ hk (Nat.le_refl _)) O1.1 (lw_of hw ((All.mem kA (List.mem_of_getElem? hk)).1) (hm.imp id (fun u => ⟨u.1, hnm.trans u.2⟩))) (hw _ kI) (ty := .array (newarray.typeOf aty)) (pfA hk) rfl rfl (g := mkF m (pc + 2) L (.ref top :: .ref a :: S)) rfl rfl (hb hby d'.1)
  have hts : (newarray.typeOf aty = .int ∨ newarray.typeOf aty = .boolean ∨ newarray.typeOf aty = .long) := (All.mem kA (List.mem_of_getElem? hk)).2.1
  have hA := arr_new A1 hts hz
  have hR2 : Rep C.2.1 C.2.2.1 T2.heap (top + 1, (a, j + 1, ob) :: H) := by rw [e2]; exact hR.addA hw E1 s1 htop hk hA W2
  obtain ⟨T', locs', k', n', r, G', g1, g2, g3, g4, g5, g6, g7, g8⟩ := h hw p e s m args below meth c T2 _ L hx hby hml hr0 hnm hown hZ hf hsz X2 hR2 (Fr.snoc X2 hF hR.objs.1)
  exact ⟨T', locs', k', n', r, G', g1, g2, g3, g4, g5, g6, g7, fun fs hr => st1 _ (st2 _ (g8 fs hr))⟩
theorem Runs.initO {W : Nat} (d : DAt M pc (.invokespecial idx) 3 q) (w1 : Jvm.Cond.methodLink M.1.cls idx Lib.objectInit ∈ tables_1) (w2 : Jvm.Cond.instanceMethod Lib.objectInit ∈ tables_1) (w3 : Jvm.Cond.code Lib.objectInit ⟨#[0xb1]⟩ 1 none ∈ tables_1) (hW : (S.map fun v => v.category).sum = W) (hc : 1 ≤ M.2.2.2.2.frames ∧ W + 12 ≤ M.2.2.2.2.locals) (h : Runs C M k n q P S G Q) : Runs C M k n pc P (.ref a :: S) G Q := by
  intro hw p e s m args below meth c T locs L hx hby hml hr0 hnm hown hZ hf hsz X hR hF
  have hqq := d.2
  subst hqq
  obtain ⟨T1, X1, e1, st1⟩ := Jvm.RoadKit.initO X hx hZ hown (hw _ w1) (hw _ w2) (hw _ w3) rfl (g := mkF m pc L (.ref a :: S)) rfl (by rw [hml]; exact hsz) rfl (hb hby d.1) hc.1 (W := W) (by show 2 * 0 + _ ≤ _; omega) hc.2
  obtain ⟨T', locs', k', n', r, G', g1, g2, g3, g4, g5, g6, g7, g8⟩ := h hw p e s m args below meth c T1 _ L hx hby hml hr0 hnm hown hZ hf hsz X1 (by rw [e1]; exact hR) hF
  exact ⟨T', locs', k', n', r, G', g1, g2, g3, g4, g5, g6, g7, fun fs hr => st1 _ (g8 fs hr)⟩
end Heap
/- a body's contract, and the calls that are paid by one -/
def Pays (C : Ctx) (N : Bdy) (as : List Value) (G : AH) (Q : Option Value → AH → Prop) : Prop :=
  Ok C → ∀ h0 : Heap, Rep C.2.1 C.2.2.1 h0 G → ∀ ws : List Jvm.Cond, MetFree C.1 N.1 (head1 (Jvm.Cond.code N.1 N.2.1 N.2.2.1 N.2.2.2.1 :: ws) N.2.2.2.2) (fun a U => a = as.toArray ∧ C.2.1.Warmed39 U.vm ∧ U.heap = h0) (fun _ _ _ _ _ => True)
    (fun _ U o U' => ∃ v L, o = .returned v ∧ (Fr C.2.2.1 L ∧ ∃ G', Rep C.2.1 C.2.2.1 U'.heap G' ∧ Q v G') ∧ FrameEnd U o U' L N.2.2.2.2.cells N.2.2.2.2.slots)
def lay : List Value → List Slot
  | [] => []
  | v :: l => if v.category = 2 then .val v :: .second :: lay l else .val v :: lay l
theorem lay_foldl (l : List Value) : ∀ acc : Array Slot, (l.foldl (fun acc v => if v.category = 2 then (acc.push (.val v)).push .second else acc.push (.val v)) acc).toList = acc.toList ++ lay l := by
  induction l with
  | nil => intro acc; simp [lay]
  | cons v l ih =>
    intro acc
    rw [List.foldl_cons, ih]
    by_cases h : v.category = 2 <;> simp [lay, h]
theorem args_lay (as : List Value) (ml : Nat) : argsToLocals as.toArray ml = (lay as ++ List.replicate (ml - (lay as).length) Slot.unset).toArray := by
  have h := lay_foldl as #[]
  apply Array.ext'
  simp only [argsToLocals, Array.toList_append, List.toList_toArray] at *
  rw [show (as.toArray.foldl (init := #[]) fun acc v => if v.category = 2 then (acc.push (Slot.val v)).push .second else acc.push (.val v)).toList = lay as by simpa using h]
  congr 1
  rw [← Array.length_toList, show (as.toArray.foldl (init := #[]) fun acc v => if v.category = 2 then (acc.push (Slot.val v)).push .second else acc.push (.val v)).toList = lay as by simpa using h]
  simp
def WFL (l : List Slot) : Prop := (∀ i : Nat, l[i]? = some .second → ∃ (j : Nat) (v : Value), i = j + 1 ∧ l[j]? = some (.val v) ∧ v.category = 2) ∧ (∀ (i : Nat) (v : Value), l[i]? = some (.val v) → v.category = 2 → l[i + 1]? = some .second)
theorem WFL.unset (n : Nat) : WFL (List.replicate n Slot.unset) := by
  refine ⟨fun i h => ?_, fun i v h => ?_⟩ <;> (rw [List.getElem?_replicate] at h; split at h <;> cases h)
theorem WFL.one {l : List Slot} {v : Value} (h : WFL l) (hv : v.category ≠ 2) : WFL (.val v :: l) := by
  refine ⟨fun i hi => ?_, fun i w hi hw => ?_⟩
  · cases i with
    | zero => simp at hi
    | succ i =>
      obtain ⟨j, w, e1, e2, e3⟩ := h.1 i (by simpa using hi)
      exact ⟨j + 1, w, by omega, by simpa using e2, e3⟩
  · cases i with
    | zero => simp at hi; subst hi; exact absurd hw hv
    | succ i => have := h.2 i w (by simpa using hi) hw; simpa using this
theorem WFL.two {l : List Slot} {v : Value} (h : WFL l) (hv : v.category = 2) : WFL (.val v :: .second :: l) := by
  refine ⟨fun i hi => ?_, fun i w hi hw => ?_⟩
  · match i, hi with
    | 0, hi => simp at hi
    | 1, hi => exact ⟨0, v, rfl, by simp, hv⟩
    | i + 2, hi =>
      obtain ⟨j, w, e1, e2, e3⟩ := h.1 i (by simpa using hi)
      exact ⟨j + 2, w, by omega, by simpa using e2, e3⟩
  · match i, hi with
    | 0, hi => simp
    | 1, hi => simp at hi
    | i + 2, hi => have := h.2 i w (by simpa using hi) hw; simpa using this
theorem WFL.lay (as : List Value) (n : Nat) : WFL (lay as ++ List.replicate n Slot.unset) := by
  induction as with
  | nil => exact WFL.unset n
  | cons v l ih =>
    by_cases h : v.category = 2
    · simpa [Jvm.Pilot.@@N@@.lay, h] using ih.two h
    · simpa [Jvm.Pilot.@@N@@.lay, h] using ih.one h
def pforget : List Bool → Pat → Pat
  | [], _ => []
  | _, [] => []
  | true :: ms, x :: l => x :: pforget ms l
  | false :: ms, _ :: l => none :: pforget ms l
theorem pforget_get : ∀ (ms : List Bool) (P : Pat) (i : Nat) (s : Slot), pget (pforget ms P) i = some s → pget P i = some s
  | [], _, i, s, h => by simp [pforget, pget] at h
  | _ :: _, [], i, s, h => by simp [pforget, pget] at h
  | true :: ms, x :: l, 0, s, h => h
  | true :: ms, x :: l, i + 1, s, h => pforget_get ms l i s h
  | false :: ms, x :: l, 0, s, h => by simp [pforget, pget] at h
  | false :: ms, x :: l, i + 1, s, h => pforget_get ms l i s h
section Calls
variable {C : Ctx} {M N : Bdy} {k n pc q : Nat} {P P' : Pat} {S S' : List Value} {G G1 : AH} {Q : Option Value → AH → Prop} {top : Nat} {a : Nat} {qq j idx W : Nat} {ob : Rec} {H : List (Nat × Nat × Rec)} {as : List Value}
theorem Runs.forget (ms : List Bool) (hP : pforget ms P = P') (h : Runs C M k n pc P' S G Q) : Runs C M k n pc P S G Q := by
  intro hw p e s m args below meth c T locs L hx hby hml hret hnm hown hZ hf
  subst hP
  exact h hw p e s m args below meth c T locs L hx hby hml hret hnm hown hZ ⟨fun i s hi => hf.1 i s (pforget_get _ _ i s hi), hf.2⟩
theorem Pays.of (hpl : plainName N.1.cls = true) (hml : (lay as).length ≤ N.2.2.1) (x : Nat) (hP : (lay as).map some ++ List.replicate x none = P) (h : Runs C N 0 0 0 P [] G Q) : Pays C N as G Q := by
  intro hw h0 hR ws
  refine MetFree.of_bodySF (plainFor_of_name hpl) hisR ?_
  intro p e s m args below meth c s₁ Bd hml0 hp hK
  obtain ⟨rfl, hZ, hh⟩ := hp
  have X0 : Stand p C.1 e N.2.2.2.2 s m as.toArray below meth c s₁ [] 0 0 := Stand.of_body Bd
  have e0 : s₁.heap = h0 := by rw [← hh, Bd.state]; rfl
  obtain ⟨L, hL⟩ : ∃ L : Array Slot, L = (lay as ++ List.replicate (N.2.2.1 - (lay as).length) Slot.unset).toArray := ⟨_, rfl⟩
  have hfit : Fits P L := by
    subst hP hL
    refine ⟨fun i s hi => ?_, ?_⟩
    · rw [pget_eq] at hi
      cases hq : (lay as)[i]? with
      | none =>
        rw [List.getElem?_append_right (by simpa using hq), List.getElem?_replicate] at hi
        split at hi <;> simp at hi
      | some y =>
        have hlt := (List.getElem?_eq_some_iff.mp hq).1
        rw [List.getElem?_append_left (by simpa using hlt), List.getElem?_map, hq] at hi
        have this : y = s := by simpa using hi
        simp only [List.getElem?_toArray]
        rw [List.getElem?_append_left hlt, hq, this]
    · have := WFL.lay as (N.2.2.1 - (lay as).length)
      refine ⟨fun i hi => ?_, fun i v hi hv => ?_⟩
      · rw [List.getElem?_toArray] at hi
        obtain ⟨j, v, e1, e2, e3⟩ := this.1 i hi
        exact ⟨j, v, e1, by rw [List.getElem?_toArray]; exact e2, e3⟩
      · rw [List.getElem?_toArray] at hi ⊢
        exact this.2 i v hi hv
  obtain ⟨T', locs', k', n', r, G', g1, g2, g3, g4, g5, g6, g7, g8⟩ := h hw p e s m as.toArray below meth c s₁ [] L Bd.exec Bd.bytes hml0 Bd.returns (name_of_methodNamed Bd.named Bd.method).1 (findClass_of_methodNamed Bd.named) hZ hfit (by rw [hL]; simp; omega) X0 (by rw [e0]; exact hR) (Fr.nil _)
  obtain ⟨fs, hr, hrun, hended, hW, hsame⟩ := g1.leave (v := r) (fun u => g7 (by rw [← Bd.returns]; exact u))
  refine ⟨_, _, ?_, hrun, hended, _, _, rfl, ⟨g5, G', ?_, g6⟩, ⟨_, rfl⟩, hW, hsame.mono g2 g3⟩
  · have ef : entryFrame m as.toArray N.2.2.1 = mkF m 0 L [] := by
      rw [hL, ← args_lay]; rfl
    rw [ef]; exact g8 fs hr
  · exact g4
abbrev room_al (M N : Bdy) (W k n : Nat) : Prop := N.2.2.2.2.frames + 1 ≤ M.2.2.2.2.frames ∧ W + (N.2.2.1 + 11) + N.2.2.2.2.locals ≤ M.2.2.2.2.locals ∧ k + N.2.2.2.2.cells ≤ M.2.2.2.2.cells ∧ n + N.2.2.2.2.slots ≤ M.2.2.2.2.slots
abbrev room_ok (M N : Bdy) (W : Nat) : Prop := N.2.2.2.2.frames + 1 ≤ M.2.2.2.2.frames ∧ W + (N.2.2.1 + 11) + N.2.2.2.2.locals ≤ M.2.2.2.2.locals ∧ N.2.2.2.2.cells = 0 ∧ N.2.2.2.2.slots = 0
abbrev full_ok (M : Bdy) (k n : Nat) : Prop := k ≤ M.2.2.2.2.cells ∧ n ≤ M.2.2.2.2.slots
theorem room_ok.al (h : room_ok M N W) (f : full_ok M k n) : room_al M N W k n := ⟨h.1, h.2.1, by rw [h.2.2.1]; exact f.1, by rw [h.2.2.2]; exact f.2⟩
abbrev code_w (N : Bdy) : Prop := Jvm.Cond.code N.1 N.2.1 N.2.2.1 N.2.2.2.1 ∈ tables_1 ∧ Jvm.Cond.initialized N.1.cls ∈ tables_1 ∧ (N.1.cls ≠ "java/lang/invoke/MethodHandle" ∧ N.1.cls ≠ "java/lang/invoke/VarHandle")
def arity (N : Bdy) (na : Nat) : Prop := ∃ ps r, parseMethodDescriptor N.1.desc = some ⟨ps, r⟩ ∧ na = ps.length
theorem arity.len {na : Nat} (h : arity N na) (e : as.length = na) : ∀ sig, parseMethodDescriptor N.1.desc = some sig → as.length = sig.parameters.length := by
  obtain ⟨ps, r, h1, h2⟩ := h
  exact lenOf h1 (e.trans h2)
theorem after_call {v : Option Value} {p : Program} {e : Env} {s : State} {m : MethodId} {args : Array Value} {below : List Frame} {meth : Method} {c : Code} {T T0 : State} {locs : List Loc} {L : Array Slot} {QN : Option Value → AH → Prop} {Lc : List Loc}
    (hw : Ok C) (hx : p.tables.exec = Jvm.exec) (hby : c.code = M.2.1) (hml : c.maxLocals = M.2.2.1) (hret : meth.sig.returnType = M.2.2.2.1) (hnm : meth.name = M.1.name) (hown : s.vm.findClass M.1.cls = some m.cls) (hZ : C.2.1.Warmed39 s.vm) (hf : Fits P L) (hsz : L.size = M.2.2.1) (hF : Fr C.2.2.1 locs)
    (X : Stand p C.1 e M.2.2.2.2 s m args below meth c T (locs ++ Lc) (k + N.2.2.2.2.cells) (n + N.2.2.2.2.slots)) (hQ : Fr C.2.2.1 Lc ∧ ∃ G', Rep C.2.1 C.2.2.1 T.heap G' ∧ QN v G')
    (h : ∀ v G', QN v G' → Runs C M (k + N.2.2.2.2.cells) (n + N.2.2.2.2.slots) (pc + 3) P (v.toList ++ S') G' Q)
    (st : ∀ t, Steps p.tables e below (T.setTop (mkF m (pc + 3) L (v.toList ++ S'))) t → Steps p.tables e below (T0.setTop (mkF m pc L S)) t) :
    ∃ (T' : State) (locs' : List Loc) (k' n' : Nat) (r : Option Value) (G' : AH), Stand p C.1 e M.2.2.2.2 s m args below meth c T' locs' k' n' ∧ k' ≤ M.2.2.2.2.cells ∧ n' ≤ M.2.2.2.2.slots ∧ Rep C.2.1 C.2.2.1 T'.heap G' ∧ Fr C.2.2.1 locs' ∧ Q r G' ∧
      (M.2.2.2.1 = none → r = none) ∧
      ∀ fs : List Frame, (∀ (f : JFrame) (acts : List Action), f.method = m → f.locked = none → f.entered = [] → (doReturn e (T'.setTop f) acts r).1 = T'.setFrames fs) → Steps p.tables e below (T0.setTop (mkF m pc L S)) (T'.setFrames fs) := by
  obtain ⟨f1, G', f2, f3⟩ := hQ
  obtain ⟨T', locs', k', n', r, G'', g1, g2, g3, g4, g5, g6, g7, g8⟩ := h v G' f3 hw p e s m args below meth c T _ L hx hby hml hret hnm hown hZ hf hsz X f2 (Fr.app hF f1)
  exact ⟨T', locs', k', n', r, G'', g1, g2, g3, g4, g5, g6, g7, fun fs hr => st _ (g8 fs hr)⟩
theorem Runs.callS {QN : Option Value → AH → Prop} (d : DAt M pc (.invokestatic idx) 3 q) (wl : Jvm.Cond.methodLink M.1.cls idx N.1 ∈ tables_1) (wt : Jvm.Cond.static N.1 ∈ tables_1) (wc : code_w N) (ar : arity N as.length) (hr0 : room_ok M N W) (hfull : full_ok M k n) (hS : S = as.reverse ++ S') (hW : (S'.map fun v => v.category).sum = W)
    (hN : Pays C N as G QN) (h : ∀ v G', QN v G' → Runs C M k n q P (v.toList ++ S') G' Q) : Runs C M k n pc P S G Q := by
  intro hw p e s m args below meth c T locs L hx hby hml hret hnm hown hZ hf hsz X hR hF
  have hq := d.2
  subst hq hS
  have hr := hr0.al hfull
  obtain ⟨_, _, ⟨T1, L1, k1, n1⟩, -, X1, ⟨Lc, hQ, l1, y1, z1⟩, st⟩ := Jvm.LawKit.callS X hx (y := N.1) hown (mvT hZ (hw _ wl)) (mvT hZ (hw _ wt)) (mvT hZ (hw _ wc.2.1)) (mvT hZ (hw _ wc.1)) wc.2.2 (backOf (W := W) (Q := fun v h L => Fr C.2.2.1 L ∧ ∃ G', Rep C.2.1 C.2.2.1 h G' ∧ QN v G') (hN hw T.heap hR []) hZ (hw _ wc.1) (hw _ wc.2.1) hr.1 hr.2.1) (g := mkF m pc L (as.reverse ++ S')) rfl (by rw [hml]; exact hsz) (argsL := as) (rest := S') (ar.len rfl) rfl (by show 2 * 0 + _ ≤ _; omega) (hb hby d.1) (fun _ _ => ⟨rfl, rfl, hr.2.2.1, hr.2.2.2⟩)
  dsimp only [Pt.U, Pt.locs, Pt.cells, Pt.slots] at X1 l1 y1 z1 st hQ
  subst l1 y1 z1
  exact after_call hw hx hby hml hret hnm hown hZ hf hsz hF X1 hQ (by rw [hr0.2.2.1, hr0.2.2.2]; exact h) (fun t u => st t u)
theorem Runs.callV {QN : Option Value → AH → Prop} (d : DAt M pc (.invokevirtual idx) 3 q) (wl : Jvm.Cond.methodLink M.1.cls idx N.1 ∈ tables_1) (wd : Jvm.Cond.declares N.1 ∈ tables_1) (wi : Jvm.Cond.instanceMethod N.1 ∈ tables_1) (ws : Jvm.Cond.selects K.1 N.1 N.1 ∈ tables_1) (wc : code_w N) (ar : arity N as.length) (hr0 : room_ok M N W) (hfull : full_ok M k n) (hS : S = as.reverse ++ .ref a :: S') (hW : (S'.map fun v => v.category).sum = W)
    (hN : Pays C N (.ref a :: as) (top, (a, qq, ob) :: H) QN) (h : ∀ v G', QN v G' → Runs C M k n q P (v.toList ++ S') G' Q) : Runs C M k n pc P S (top, (a, qq, ob) :: H) Q := by
  intro hw p e s m args below meth c T locs L hx hby hml hret hnm hown hZ hf hsz X hR hF
  have hq := d.2
  subst hq hS
  have hr := hr0.al hfull
  obtain ⟨cB, kB, u1, -, u3⟩ := isOf hZ rfl hR.objs.2.2.1
  obtain ⟨_, _, ⟨T1, L1, k1, n1⟩, -, X1, ⟨Lc, hQ, l1, y1, z1⟩, st⟩ := X.virtualBack hx (y := N.1) (z := N.1) hown (mvT hZ (hw _ wl)) (mvT hZ (hw _ wd)) (notFace_of_selects (args := #[]) (mvT hZ (hw _ ws))) (mvT hZ (hw _ ws)) (mvT hZ (hw _ wi)) wc.2.2 (backOf (W := W) (Q := fun v h L => Fr C.2.2.1 L ∧ ∃ G', Rep C.2.1 C.2.2.1 h G' ∧ QN v G') (hN hw T.heap hR []) hZ (hw _ wc.1) (hw _ wc.2.1) hr.1 hr.2.1) u1 u3 (g := mkF m pc L (as.reverse ++ .ref a :: S')) rfl (by rw [hml]; exact hsz) (Steps.refl _) (argsL := as) (rest := S') (ar.len rfl) rfl (by show 2 * 0 + _ ≤ _; omega) (hb hby d.1) (fun _ _ => ⟨rfl, rfl, hr.2.2.1, hr.2.2.2⟩)
  dsimp only [Pt.U, Pt.locs, Pt.cells, Pt.slots] at X1 l1 y1 z1 st hQ
  subst l1 y1 z1
  exact after_call hw hx hby hml hret hnm hown hZ hf hsz hF X1 hQ (by rw [hr0.2.2.1, hr0.2.2.2]; exact h) (fun t u => st.trans u)
theorem Runs.callP {QN : Option Value → AH → Prop} (d : DAt M pc (.invokevirtual idx) 3 q) (wl : Jvm.Cond.methodLink M.1.cls idx N.1 ∈ tables_1) (wi : Jvm.Cond.instanceMethod N.1 ∈ tables_1) (wp : Jvm.Cond.privateMethod N.1 ∈ tables_1) (wK : N.1.cls = K.1) (wc : code_w N) (ar : arity N as.length) (hr0 : room_ok M N W) (hfull : full_ok M k n) (hS : S = as.reverse ++ .ref a :: S') (hW : (S'.map fun v => v.category).sum = W)
    (hN : Pays C N (.ref a :: as) (top, (a, qq, ob) :: H) QN) (h : ∀ v G', QN v G' → Runs C M k n q P (v.toList ++ S') G' Q) : Runs C M k n pc P S (top, (a, qq, ob) :: H) Q := by
  intro hw p e s m args below meth c T locs L hx hby hml hret hnm hown hZ hf hsz X hR hF
  have hq := d.2
  subst hq hS
  have hr := hr0.al hfull
  obtain ⟨cl, u1, u2⟩ := hR.objs.2.2.1.cell
  have hpr : s.PrivateAt N.1 := Cond.privateMethod_at (mvP hZ (hw _ wp) (args := #[]))
  obtain ⟨c2, k2, i1, i2, i3, i4, -⟩ := Cond.instantiable_spec (mvT (args := args) hZ (hw _ kI))
  have hsel : (Jvm.Cond.selects N.1.cls N.1 N.1).before args s = true := Stand.selects_self_of_private (by rw [wK]; exact i1) i2 (by simp at i4; exact i4.1) hpr (mvT hZ (hw _ wi)) wc.2.2
  obtain ⟨_, _, ⟨T1, L1, k1, n1⟩, -, X1, ⟨Lc, hQ, l1, y1, z1⟩, st⟩ := X.privateBack hx (y := N.1) hown (mvT hZ (hw _ wl)) (mvT hZ (hw _ wi)) hsel hpr (mvT hZ (hw _ wc.1)) wc.2.2 (backOf (W := W) (Q := fun v h L => Fr C.2.2.1 L ∧ ∃ G', Rep C.2.1 C.2.2.1 h G' ∧ QN v G') (hN hw T.heap hR []) hZ (hw _ wc.1) (hw _ wc.2.1) hr.1 hr.2.1) (g := mkF m pc L (as.reverse ++ .ref a :: S')) rfl (by rw [hml]; exact hsz) (Steps.refl _) (a := a) u1 u2 (argsL := as) (rest := S') (ar.len rfl) rfl (by show 2 * 0 + _ ≤ _; omega) (hb hby d.1) (fun _ _ => ⟨rfl, rfl, hr.2.2.1, hr.2.2.2⟩)
  dsimp only [Pt.U, Pt.locs, Pt.cells, Pt.slots] at X1 l1 y1 z1 st hQ
  subst l1 y1 z1
  exact after_call hw hx hby hml hret hnm hown hZ hf hsz hF X1 hQ (by rw [hr0.2.2.1, hr0.2.2.2]; exact h) (fun t u => st.trans u)
theorem Runs.callI {QN : Option Value → AH → Prop} (d : DAt M pc (.invokespecial idx) 3 q) (hi : N.1.name = "<init>") (hn : N.2.2.2.1 = none) (wl : Jvm.Cond.methodLink M.1.cls idx N.1 ∈ tables_1) (wi : Jvm.Cond.instanceMethod N.1 ∈ tables_1) (wc : code_w N) (ar : arity N as.length) (hr : room_al M N W k n) (hS : S = as.reverse ++ .ref a :: S') (hW : (S'.map fun v => v.category).sum = W) {k' n' : Nat} (hk' : k + N.2.2.2.2.cells = k') (hn' : n + N.2.2.2.2.slots = n')
    (hN : Pays C N (.ref a :: as) G QN) (h : ∀ v G', QN v G' → Runs C M k' n' q P (v.toList ++ S') G' Q) : Runs C M k n pc P S G Q := by
  intro hw p e s m args below meth c T locs L hx hby hml hret hnm hown hZ hf hsz X hR hF
  have hq := d.2
  subst hq hS hk' hn'
  have wc1 := hw _ wc.1
  obtain ⟨_, _, ⟨T1, L1, k1, n1⟩, -, X1, ⟨Lc, hQ, l1, y1, z1⟩, st⟩ := X.specialBack hx (y := N.1) hi hown (mvT hZ (hw _ wl)) (mvT hZ (hw _ wi)) (bytes := N.2.1) (maxL := N.2.2.1) (by have := mvT (args := args) hZ wc1; rw [hn] at this; exact this) wc.2.2 (backOf (W := W) (Q := fun v h L => Fr C.2.2.1 L ∧ ∃ G', Rep C.2.1 C.2.2.1 h G' ∧ QN v G') (hN hw T.heap hR []) hZ wc1 (hw _ wc.2.1) hr.1 hr.2.1) (g := mkF m pc L (as.reverse ++ .ref a :: S')) rfl (by rw [hml]; exact hsz) (Steps.refl _) (a := a) (argsL := as) (rest := S') (ar.len rfl) rfl (by show 2 * 0 + _ ≤ _; omega) (hb hby d.1) (fun _ _ => ⟨rfl, rfl, hr.2.2.1, hr.2.2.2⟩)
  dsimp only [Pt.U, Pt.locs, Pt.cells, Pt.slots] at X1 l1 y1 z1 st hQ
  subst l1 y1 z1
  exact after_call hw hx hby hml hret hnm hown hZ hf hsz hF X1 hQ h (fun t u => st.trans u)
/-- the plain form of a contract: one answer, one heap -/
abbrev Ans (r : Option Value) (G1 : AH) : Option Value → AH → Prop := fun v G' => v = r ∧ G' = G1
theorem ans1 {x : Value} {k n : Nat} (h : Runs C M k n pc P (x :: S) G1 Q) : ∀ v G', Ans (some x) G1 v G' → Runs C M k n pc P (v.toList ++ S) G' Q := by
  rintro v G' ⟨rfl, rfl⟩; exact h
theorem ans0 {k n : Nat} (h : Runs C M k n pc P S G1 Q) : ∀ v G', Ans none G1 v G' → Runs C M k n pc P (v.toList ++ S) G' Q := by
  rintro v G' ⟨rfl, rfl⟩; exact h
end Calls
theorem pnK : plainName "QueryRewriter" = true := by first | (simp [plainName, overriddenIn]; done) | decide +kernel
theorem pnL : plainName "QueryRewriterL1" = true := by first | (simp [plainName, overriddenIn]; done) | decide +kernel
theorem w0 : (Jvm.Cond.classLink "QueryRewriterL1" (7 : Nat) "QueryRewriter") ∈ tables_1 := mem1 0 rfl
theorem w3 : (Jvm.Cond.methodLink "QueryRewriterL1" (9 : Nat) ({ cls := "QueryRewriter", name := "<init>", desc := "(II)V" } : Jvm.MethodName)) ∈ tables_1 := mem1 3 rfl
theorem w4 : (Jvm.Cond.instanceMethod ({ cls := "QueryRewriter", name := "<init>", desc := "(II)V" } : Jvm.MethodName)) ∈ tables_1 := mem1 4 rfl
theorem w6 : (Jvm.Cond.methodLink "QueryRewriter" (1 : Nat) ({ cls := "java/lang/Object", name := "<init>", desc := "()V" } : Jvm.MethodName)) ∈ tables_1 := mem1 6 rfl
theorem w7 : (Jvm.Cond.instanceMethod ({ cls := "java/lang/Object", name := "<init>", desc := "()V" } : Jvm.MethodName)) ∈ tables_1 := mem1 7 rfl
theorem w8 : (Jvm.Cond.code ({ cls := "java/lang/Object", name := "<init>", desc := "()V" } : Jvm.MethodName) object_method_1_code (1 : Nat) (Option.none : Option Jvm.ClassFile.FieldType)) ∈ tables_1 := mem1 8 rfl
theorem w9 : (Jvm.Cond.fieldLink "QueryRewriter" (7 : Nat) "QueryRewriter" "tyScan" "I") ∈ tables_1 := mem1 9 rfl
theorem w11 : (Jvm.Cond.fieldLink "QueryRewriter" (13 : Nat) "QueryRewriter" "tySelect" "I") ∈ tables_1 := mem1 11 rfl
theorem w13 : (Jvm.Cond.fieldLink "QueryRewriter" (16 : Nat) "QueryRewriter" "tyProject" "I") ∈ tables_1 := mem1 13 rfl
theorem w15 : (Jvm.Cond.fieldLink "QueryRewriter" (19 : Nat) "QueryRewriter" "tyJoin" "I") ∈ tables_1 := mem1 15 rfl
theorem w17 : (Jvm.Cond.fieldLink "QueryRewriter" (22 : Nat) "QueryRewriter" "tyView" "I") ∈ tables_1 := mem1 17 rfl
theorem w19 : (Jvm.Cond.fieldLink "QueryRewriter" (25 : Nat) "QueryRewriter" "plScan" "I") ∈ tables_1 := mem1 19 rfl
theorem w21 : (Jvm.Cond.fieldLink "QueryRewriter" (28 : Nat) "QueryRewriter" "plJoin" "I") ∈ tables_1 := mem1 21 rfl
theorem w23 : (Jvm.Cond.arrayClass Jvm.ClassFile.FieldType.int) ∈ tables_1 := mem1 23 rfl
theorem w24 : (Jvm.Cond.fieldLink "QueryRewriter" (31 : Nat) "QueryRewriter" "tCols" "[I") ∈ tables_1 := mem1 24 rfl
theorem w25 : (Jvm.Cond.lays "QueryRewriter" "QueryRewriter" "tCols" "[I") ∈ tables_1 := mem1 25 rfl
theorem w26 : (Jvm.Cond.fieldLink "QueryRewriter" (35 : Nat) "QueryRewriter" "tRows" "[I") ∈ tables_1 := mem1 26 rfl
theorem w27 : (Jvm.Cond.lays "QueryRewriter" "QueryRewriter" "tRows" "[I") ∈ tables_1 := mem1 27 rfl
theorem w28 : (Jvm.Cond.fieldLink "QueryRewriter" (38 : Nat) "QueryRewriter" "tCells" "[I") ∈ tables_1 := mem1 28 rfl
theorem w29 : (Jvm.Cond.lays "QueryRewriter" "QueryRewriter" "tCells" "[I") ∈ tables_1 := mem1 29 rfl
theorem w30 : (Jvm.Cond.fieldLink "QueryRewriter" (41 : Nat) "QueryRewriter" "pOp" "[I") ∈ tables_1 := mem1 30 rfl
theorem w31 : (Jvm.Cond.lays "QueryRewriter" "QueryRewriter" "pOp" "[I") ∈ tables_1 := mem1 31 rfl
theorem w32 : (Jvm.Cond.fieldLink "QueryRewriter" (44 : Nat) "QueryRewriter" "pA" "[I") ∈ tables_1 := mem1 32 rfl
theorem w33 : (Jvm.Cond.lays "QueryRewriter" "QueryRewriter" "pA" "[I") ∈ tables_1 := mem1 33 rfl
theorem w34 : (Jvm.Cond.fieldLink "QueryRewriter" (47 : Nat) "QueryRewriter" "pB" "[I") ∈ tables_1 := mem1 34 rfl
theorem w35 : (Jvm.Cond.lays "QueryRewriter" "QueryRewriter" "pB" "[I") ∈ tables_1 := mem1 35 rfl
theorem w36 : (Jvm.Cond.fieldLink "QueryRewriter" (50 : Nat) "QueryRewriter" "pFl" "[I") ∈ tables_1 := mem1 36 rfl
theorem w37 : (Jvm.Cond.lays "QueryRewriter" "QueryRewriter" "pFl" "[I") ∈ tables_1 := mem1 37 rfl
theorem w38 : (Jvm.Cond.fieldLink "QueryRewriter" (53 : Nat) "QueryRewriter" "nType" "[I") ∈ tables_1 := mem1 38 rfl
theorem w39 : (Jvm.Cond.lays "QueryRewriter" "QueryRewriter" "nType" "[I") ∈ tables_1 := mem1 39 rfl
theorem w40 : (Jvm.Cond.fieldLink "QueryRewriter" (56 : Nat) "QueryRewriter" "nWidth" "[I") ∈ tables_1 := mem1 40 rfl
theorem w41 : (Jvm.Cond.lays "QueryRewriter" "QueryRewriter" "nWidth" "[I") ∈ tables_1 := mem1 41 rfl
theorem w42 : (Jvm.Cond.fieldLink "QueryRewriter" (59 : Nat) "QueryRewriter" "nX" "[I") ∈ tables_1 := mem1 42 rfl
theorem w43 : (Jvm.Cond.lays "QueryRewriter" "QueryRewriter" "nX" "[I") ∈ tables_1 := mem1 43 rfl
theorem w44 : (Jvm.Cond.fieldLink "QueryRewriter" (62 : Nat) "QueryRewriter" "nY" "[I") ∈ tables_1 := mem1 44 rfl
theorem w45 : (Jvm.Cond.lays "QueryRewriter" "QueryRewriter" "nY" "[I") ∈ tables_1 := mem1 45 rfl
theorem w46 : (Jvm.Cond.fieldLink "QueryRewriter" (65 : Nat) "QueryRewriter" "nKind" "[I") ∈ tables_1 := mem1 46 rfl
theorem w47 : (Jvm.Cond.lays "QueryRewriter" "QueryRewriter" "nKind" "[I") ∈ tables_1 := mem1 47 rfl
theorem w48 : (Jvm.Cond.fieldLink "QueryRewriter" (68 : Nat) "QueryRewriter" "nPacked" "[I") ∈ tables_1 := mem1 48 rfl
theorem w49 : (Jvm.Cond.lays "QueryRewriter" "QueryRewriter" "nPacked" "[I") ∈ tables_1 := mem1 49 rfl
theorem w50 : (Jvm.Cond.fieldLink "QueryRewriter" (71 : Nat) "QueryRewriter" "nAtStart" "[I") ∈ tables_1 := mem1 50 rfl
theorem w51 : (Jvm.Cond.lays "QueryRewriter" "QueryRewriter" "nAtStart" "[I") ∈ tables_1 := mem1 51 rfl
theorem w52 : (Jvm.Cond.fieldLink "QueryRewriter" (74 : Nat) "QueryRewriter" "nAtCnt" "[I") ∈ tables_1 := mem1 52 rfl
theorem w53 : (Jvm.Cond.lays "QueryRewriter" "QueryRewriter" "nAtCnt" "[I") ∈ tables_1 := mem1 53 rfl
theorem w54 : (Jvm.Cond.fieldLink "QueryRewriter" (77 : Nat) "QueryRewriter" "aOp" "[I") ∈ tables_1 := mem1 54 rfl
theorem w55 : (Jvm.Cond.lays "QueryRewriter" "QueryRewriter" "aOp" "[I") ∈ tables_1 := mem1 55 rfl
theorem w56 : (Jvm.Cond.fieldLink "QueryRewriter" (80 : Nat) "QueryRewriter" "aA" "[I") ∈ tables_1 := mem1 56 rfl
theorem w57 : (Jvm.Cond.lays "QueryRewriter" "QueryRewriter" "aA" "[I") ∈ tables_1 := mem1 57 rfl
theorem w58 : (Jvm.Cond.fieldLink "QueryRewriter" (83 : Nat) "QueryRewriter" "aB" "[I") ∈ tables_1 := mem1 58 rfl
theorem w59 : (Jvm.Cond.lays "QueryRewriter" "QueryRewriter" "aB" "[I") ∈ tables_1 := mem1 59 rfl
theorem w60 : (Jvm.Cond.fieldLink "QueryRewriter" (86 : Nat) "QueryRewriter" "aFl" "[I") ∈ tables_1 := mem1 60 rfl
theorem w61 : (Jvm.Cond.lays "QueryRewriter" "QueryRewriter" "aFl" "[I") ∈ tables_1 := mem1 61 rfl
theorem w62 : (Jvm.Cond.fieldLink "QueryRewriter" (89 : Nat) "QueryRewriter" "viewNode" "[I") ∈ tables_1 := mem1 62 rfl
theorem w63 : (Jvm.Cond.lays "QueryRewriter" "QueryRewriter" "viewNode" "[I") ∈ tables_1 := mem1 63 rfl
theorem w64 : (Jvm.Cond.fieldLink "QueryRewriter" (92 : Nat) "QueryRewriter" "weight" "[I") ∈ tables_1 := mem1 64 rfl
theorem w65 : (Jvm.Cond.lays "QueryRewriter" "QueryRewriter" "weight" "[I") ∈ tables_1 := mem1 65 rfl
theorem w66 : (Jvm.Cond.arrayClass Jvm.ClassFile.FieldType.boolean) ∈ tables_1 := mem1 66 rfl
theorem w67 : (Jvm.Cond.fieldLink "QueryRewriter" (95 : Nat) "QueryRewriter" "reach" "[Z") ∈ tables_1 := mem1 67 rfl
theorem w68 : (Jvm.Cond.lays "QueryRewriter" "QueryRewriter" "reach" "[Z") ∈ tables_1 := mem1 68 rfl
theorem w69 : (Jvm.Cond.fieldLink "QueryRewriter" (99 : Nat) "QueryRewriter" "bag" "[I") ∈ tables_1 := mem1 69 rfl
theorem w70 : (Jvm.Cond.lays "QueryRewriter" "QueryRewriter" "bag" "[I") ∈ tables_1 := mem1 70 rfl
theorem w71 : (Jvm.Cond.fieldLink "QueryRewriter" (102 : Nat) "QueryRewriter" "bagCnt" "[I") ∈ tables_1 := mem1 71 rfl
theorem w72 : (Jvm.Cond.lays "QueryRewriter" "QueryRewriter" "bagCnt" "[I") ∈ tables_1 := mem1 72 rfl
theorem w73 : (Jvm.Cond.fieldLink "QueryRewriter" (105 : Nat) "QueryRewriter" "rowBuf" "[I") ∈ tables_1 := mem1 73 rfl
theorem w74 : (Jvm.Cond.lays "QueryRewriter" "QueryRewriter" "rowBuf" "[I") ∈ tables_1 := mem1 74 rfl
theorem w75 : (Jvm.Cond.fieldLink "QueryRewriter" (108 : Nat) "QueryRewriter" "res" "[I") ∈ tables_1 := mem1 75 rfl
theorem w76 : (Jvm.Cond.lays "QueryRewriter" "QueryRewriter" "res" "[I") ∈ tables_1 := mem1 76 rfl
theorem w77 : (Jvm.Cond.fieldLink "QueryRewriter" (111 : Nat) "QueryRewriter" "plType" "[I") ∈ tables_1 := mem1 77 rfl
theorem w78 : (Jvm.Cond.lays "QueryRewriter" "QueryRewriter" "plType" "[I") ∈ tables_1 := mem1 78 rfl
theorem w79 : (Jvm.Cond.fieldLink "QueryRewriter" (114 : Nat) "QueryRewriter" "plTable" "[I") ∈ tables_1 := mem1 79 rfl
theorem w80 : (Jvm.Cond.lays "QueryRewriter" "QueryRewriter" "plTable" "[I") ∈ tables_1 := mem1 80 rfl
theorem w81 : (Jvm.Cond.fieldLink "QueryRewriter" (117 : Nat) "QueryRewriter" "plLeft" "[I") ∈ tables_1 := mem1 81 rfl
theorem w82 : (Jvm.Cond.lays "QueryRewriter" "QueryRewriter" "plLeft" "[I") ∈ tables_1 := mem1 82 rfl
theorem w83 : (Jvm.Cond.fieldLink "QueryRewriter" (120 : Nat) "QueryRewriter" "plRight" "[I") ∈ tables_1 := mem1 83 rfl
theorem w84 : (Jvm.Cond.lays "QueryRewriter" "QueryRewriter" "plRight" "[I") ∈ tables_1 := mem1 84 rfl
theorem w85 : (Jvm.Cond.fieldLink "QueryRewriter" (123 : Nat) "QueryRewriter" "plKind" "[I") ∈ tables_1 := mem1 85 rfl
theorem w86 : (Jvm.Cond.lays "QueryRewriter" "QueryRewriter" "plKind" "[I") ∈ tables_1 := mem1 86 rfl
theorem w87 : (Jvm.Cond.fieldLink "QueryRewriter" (126 : Nat) "QueryRewriter" "plLen" "[I") ∈ tables_1 := mem1 87 rfl
theorem w88 : (Jvm.Cond.lays "QueryRewriter" "QueryRewriter" "plLen" "[I") ∈ tables_1 := mem1 88 rfl
theorem w89 : (Jvm.Cond.fieldLink "QueryRewriter" (129 : Nat) "QueryRewriter" "plMap" "[I") ∈ tables_1 := mem1 89 rfl
theorem w90 : (Jvm.Cond.lays "QueryRewriter" "QueryRewriter" "plMap" "[I") ∈ tables_1 := mem1 90 rfl
theorem w91 : (Jvm.Cond.fieldLink "QueryRewriter" (132 : Nat) "QueryRewriter" "needMask" "[I") ∈ tables_1 := mem1 91 rfl
theorem w92 : (Jvm.Cond.lays "QueryRewriter" "QueryRewriter" "needMask" "[I") ∈ tables_1 := mem1 92 rfl
theorem w93 : (Jvm.Cond.fieldLink "QueryRewriter" (135 : Nat) "QueryRewriter" "plEmpty" "[Z") ∈ tables_1 := mem1 93 rfl
theorem w94 : (Jvm.Cond.lays "QueryRewriter" "QueryRewriter" "plEmpty" "[Z") ∈ tables_1 := mem1 94 rfl
theorem w95 : (Jvm.Cond.fieldLink "QueryRewriter" (138 : Nat) "QueryRewriter" "head" "[I") ∈ tables_1 := mem1 95 rfl
theorem w96 : (Jvm.Cond.lays "QueryRewriter" "QueryRewriter" "head" "[I") ∈ tables_1 := mem1 96 rfl
theorem w97 : (Jvm.Cond.fieldLink "QueryRewriter" (141 : Nat) "QueryRewriter" "qOp" "[I") ∈ tables_1 := mem1 97 rfl
theorem w98 : (Jvm.Cond.lays "QueryRewriter" "QueryRewriter" "qOp" "[I") ∈ tables_1 := mem1 98 rfl
theorem w99 : (Jvm.Cond.fieldLink "QueryRewriter" (144 : Nat) "QueryRewriter" "qA" "[I") ∈ tables_1 := mem1 99 rfl
theorem w100 : (Jvm.Cond.lays "QueryRewriter" "QueryRewriter" "qA" "[I") ∈ tables_1 := mem1 100 rfl
theorem w101 : (Jvm.Cond.fieldLink "QueryRewriter" (147 : Nat) "QueryRewriter" "qB" "[I") ∈ tables_1 := mem1 101 rfl
theorem w102 : (Jvm.Cond.lays "QueryRewriter" "QueryRewriter" "qB" "[I") ∈ tables_1 := mem1 102 rfl
theorem w103 : (Jvm.Cond.fieldLink "QueryRewriter" (150 : Nat) "QueryRewriter" "qFl" "[I") ∈ tables_1 := mem1 103 rfl
theorem w104 : (Jvm.Cond.lays "QueryRewriter" "QueryRewriter" "qFl" "[I") ∈ tables_1 := mem1 104 rfl
theorem w105 : (Jvm.Cond.fieldLink "QueryRewriter" (153 : Nat) "QueryRewriter" "qNext" "[I") ∈ tables_1 := mem1 105 rfl
theorem w106 : (Jvm.Cond.lays "QueryRewriter" "QueryRewriter" "qNext" "[I") ∈ tables_1 := mem1 106 rfl
theorem w107 : (Jvm.Cond.fieldLink "QueryRewriter" (156 : Nat) "QueryRewriter" "stNode" "[I") ∈ tables_1 := mem1 107 rfl
theorem w108 : (Jvm.Cond.lays "QueryRewriter" "QueryRewriter" "stNode" "[I") ∈ tables_1 := mem1 108 rfl
theorem w109 : (Jvm.Cond.fieldLink "QueryRewriter" (159 : Nat) "QueryRewriter" "stPhase" "[I") ∈ tables_1 := mem1 109 rfl
theorem w110 : (Jvm.Cond.lays "QueryRewriter" "QueryRewriter" "stPhase" "[I") ∈ tables_1 := mem1 110 rfl
theorem w111 : (Jvm.Cond.fieldLink "QueryRewriter" (162 : Nat) "QueryRewriter" "resStack" "[I") ∈ tables_1 := mem1 111 rfl
theorem w112 : (Jvm.Cond.lays "QueryRewriter" "QueryRewriter" "resStack" "[I") ∈ tables_1 := mem1 112 rfl
theorem w113 : (Jvm.Cond.fieldLink "QueryRewriter" (165 : Nat) "QueryRewriter" "tmpMap" "[I") ∈ tables_1 := mem1 113 rfl
theorem w114 : (Jvm.Cond.lays "QueryRewriter" "QueryRewriter" "tmpMap" "[I") ∈ tables_1 := mem1 114 rfl
theorem w115 : (Jvm.Cond.methodLink "QueryRewriter" (168 : Nat) ({ cls := "QueryRewriter", name := "clamp", desc := "(III)I" } : Jvm.MethodName)) ∈ tables_1 := mem1 115 rfl
theorem w116 : (Jvm.Cond.instanceMethod ({ cls := "QueryRewriter", name := "clamp", desc := "(III)I" } : Jvm.MethodName)) ∈ tables_1 := mem1 116 rfl
theorem w117 : (Jvm.Cond.privateMethod ({ cls := "QueryRewriter", name := "clamp", desc := "(III)I" } : Jvm.MethodName)) ∈ tables_1 := mem1 117 rfl
theorem w119 : (Jvm.Cond.fieldLink "QueryRewriter" (172 : Nat) "QueryRewriter" "rowCap" "I") ∈ tables_1 := mem1 119 rfl
theorem w120 : (Jvm.Cond.lays "QueryRewriter" "QueryRewriter" "rowCap" "I") ∈ tables_1 := mem1 120 rfl
theorem w121 : (Jvm.Cond.fieldLink "QueryRewriter" (175 : Nat) "QueryRewriter" "weightLimit" "I") ∈ tables_1 := mem1 121 rfl
theorem w122 : (Jvm.Cond.lays "QueryRewriter" "QueryRewriter" "weightLimit" "I") ∈ tables_1 := mem1 122 rfl
theorem w123 : (Jvm.Cond.methodLink "QueryRewriterL1" (12 : Nat) ({ cls := "QueryRewriter", name := "resultWidth", desc := "()I" } : Jvm.MethodName)) ∈ tables_1 := mem1 123 rfl
theorem w124 : (Jvm.Cond.declares ({ cls := "QueryRewriter", name := "resultWidth", desc := "()I" } : Jvm.MethodName)) ∈ tables_1 := mem1 124 rfl
theorem w125 : (Jvm.Cond.instanceMethod ({ cls := "QueryRewriter", name := "resultWidth", desc := "()I" } : Jvm.MethodName)) ∈ tables_1 := mem1 125 rfl
theorem w126 : (Jvm.Cond.selects "QueryRewriter" ({ cls := "QueryRewriter", name := "resultWidth", desc := "()I" } : Jvm.MethodName) ({ cls := "QueryRewriter", name := "resultWidth", desc := "()I" } : Jvm.MethodName)) ∈ tables_1 := mem1 126 rfl
theorem w128 : (Jvm.Cond.fieldLink "QueryRewriter" (219 : Nat) "QueryRewriter" "resW" "I") ∈ tables_1 := mem1 128 rfl
theorem w130 : (Jvm.Cond.methodLink "QueryRewriterL1" (16 : Nat) ({ cls := "QueryRewriter", name := "resultCell", desc := "(II)I" } : Jvm.MethodName)) ∈ tables_1 := mem1 130 rfl
theorem w131 : (Jvm.Cond.declares ({ cls := "QueryRewriter", name := "resultCell", desc := "(II)I" } : Jvm.MethodName)) ∈ tables_1 := mem1 131 rfl
theorem w132 : (Jvm.Cond.instanceMethod ({ cls := "QueryRewriter", name := "resultCell", desc := "(II)I" } : Jvm.MethodName)) ∈ tables_1 := mem1 132 rfl
theorem w133 : (Jvm.Cond.selects "QueryRewriter" ({ cls := "QueryRewriter", name := "resultCell", desc := "(II)I" } : Jvm.MethodName) ({ cls := "QueryRewriter", name := "resultCell", desc := "(II)I" } : Jvm.MethodName)) ∈ tables_1 := mem1 133 rfl
theorem w135 : (Jvm.Cond.fieldLink "QueryRewriter" (222 : Nat) "QueryRewriter" "resN" "I") ∈ tables_1 := mem1 135 rfl
theorem w137 : (Jvm.Cond.methodLink "QueryRewriterL1" (20 : Nat) ({ cls := "QueryRewriter", name := "tableRows", desc := "(I)I" } : Jvm.MethodName)) ∈ tables_1 := mem1 137 rfl
theorem w138 : (Jvm.Cond.declares ({ cls := "QueryRewriter", name := "tableRows", desc := "(I)I" } : Jvm.MethodName)) ∈ tables_1 := mem1 138 rfl
theorem w139 : (Jvm.Cond.instanceMethod ({ cls := "QueryRewriter", name := "tableRows", desc := "(I)I" } : Jvm.MethodName)) ∈ tables_1 := mem1 139 rfl
theorem w140 : (Jvm.Cond.selects "QueryRewriter" ({ cls := "QueryRewriter", name := "tableRows", desc := "(I)I" } : Jvm.MethodName) ({ cls := "QueryRewriter", name := "tableRows", desc := "(I)I" } : Jvm.MethodName)) ∈ tables_1 := mem1 140 rfl
theorem w142 : (Jvm.Cond.methodLink "QueryRewriter" (178 : Nat) ({ cls := "QueryRewriter", name := "tableExists", desc := "(I)Z" } : Jvm.MethodName)) ∈ tables_1 := mem1 142 rfl
theorem w143 : (Jvm.Cond.instanceMethod ({ cls := "QueryRewriter", name := "tableExists", desc := "(I)Z" } : Jvm.MethodName)) ∈ tables_1 := mem1 143 rfl
theorem w144 : (Jvm.Cond.privateMethod ({ cls := "QueryRewriter", name := "tableExists", desc := "(I)Z" } : Jvm.MethodName)) ∈ tables_1 := mem1 144 rfl
theorem w146 : (Jvm.Cond.methodLink "QueryRewriterL1" (24 : Nat) ({ cls := "QueryRewriter", name := "nodeWidth", desc := "(I)I" } : Jvm.MethodName)) ∈ tables_1 := mem1 146 rfl
theorem w147 : (Jvm.Cond.declares ({ cls := "QueryRewriter", name := "nodeWidth", desc := "(I)I" } : Jvm.MethodName)) ∈ tables_1 := mem1 147 rfl
theorem w148 : (Jvm.Cond.instanceMethod ({ cls := "QueryRewriter", name := "nodeWidth", desc := "(I)I" } : Jvm.MethodName)) ∈ tables_1 := mem1 148 rfl
theorem w149 : (Jvm.Cond.selects "QueryRewriter" ({ cls := "QueryRewriter", name := "nodeWidth", desc := "(I)I" } : Jvm.MethodName) ({ cls := "QueryRewriter", name := "nodeWidth", desc := "(I)I" } : Jvm.MethodName)) ∈ tables_1 := mem1 149 rfl
theorem w151 : (Jvm.Cond.methodLink "QueryRewriter" (195 : Nat) ({ cls := "QueryRewriter", name := "nodeExists", desc := "(I)Z" } : Jvm.MethodName)) ∈ tables_1 := mem1 151 rfl
theorem w152 : (Jvm.Cond.instanceMethod ({ cls := "QueryRewriter", name := "nodeExists", desc := "(I)Z" } : Jvm.MethodName)) ∈ tables_1 := mem1 152 rfl
theorem w153 : (Jvm.Cond.privateMethod ({ cls := "QueryRewriter", name := "nodeExists", desc := "(I)Z" } : Jvm.MethodName)) ∈ tables_1 := mem1 153 rfl
theorem w155 : (Jvm.Cond.fieldLink "QueryRewriter" (188 : Nat) "QueryRewriter" "nodeN" "I") ∈ tables_1 := mem1 155 rfl
theorem w157 : (Jvm.Cond.methodLink "QueryRewriterL1" (27 : Nat) ({ cls := "QueryRewriter", name := "createTable", desc := "(II)Z" } : Jvm.MethodName)) ∈ tables_1 := mem1 157 rfl
theorem w158 : (Jvm.Cond.declares ({ cls := "QueryRewriter", name := "createTable", desc := "(II)Z" } : Jvm.MethodName)) ∈ tables_1 := mem1 158 rfl
theorem w159 : (Jvm.Cond.instanceMethod ({ cls := "QueryRewriter", name := "createTable", desc := "(II)Z" } : Jvm.MethodName)) ∈ tables_1 := mem1 159 rfl
theorem w160 : (Jvm.Cond.selects "QueryRewriter" ({ cls := "QueryRewriter", name := "createTable", desc := "(II)Z" } : Jvm.MethodName) ({ cls := "QueryRewriter", name := "createTable", desc := "(II)Z" } : Jvm.MethodName)) ∈ tables_1 := mem1 160 rfl
theorem fS_0 : K.2.1[0]? = some ("tyScan", "I") := rfl
theorem fS_1 : K.2.1[1]? = some ("tySelect", "I") := rfl
theorem fS_2 : K.2.1[2]? = some ("tyProject", "I") := rfl
theorem fS_3 : K.2.1[3]? = some ("tyJoin", "I") := rfl
theorem fS_4 : K.2.1[4]? = some ("tyView", "I") := rfl
theorem fS_5 : K.2.1[5]? = some ("plScan", "I") := rfl
theorem fS_6 : K.2.1[6]? = some ("plJoin", "I") := rfl
theorem fS_7 : K.2.1[7]? = some ("rowCap", "I") := rfl
theorem fS_8 : K.2.1[8]? = some ("weightLimit", "I") := rfl
theorem fS_9 : K.2.1[9]? = some ("nodeN", "I") := rfl
theorem fS_10 : K.2.1[10]? = some ("resW", "I") := rfl
theorem fS_11 : K.2.1[11]? = some ("resN", "I") := rfl
theorem fA_0 : K.2.2[0]? = some ("tCols", .int, (4 : Int32)) := rfl
theorem fA_1 : K.2.2[1]? = some ("tRows", .int, (4 : Int32)) := rfl
theorem fA_2 : K.2.2[2]? = some ("tCells", .int, (96 : Int32)) := rfl
theorem fA_3 : K.2.2[3]? = some ("pOp", .int, (4 : Int32)) := rfl
theorem fA_4 : K.2.2[4]? = some ("pA", .int, (4 : Int32)) := rfl
theorem fA_5 : K.2.2[5]? = some ("pB", .int, (4 : Int32)) := rfl
theorem fA_6 : K.2.2[6]? = some ("pFl", .int, (4 : Int32)) := rfl
theorem fA_7 : K.2.2[7]? = some ("nType", .int, (32 : Int32)) := rfl
theorem fA_8 : K.2.2[8]? = some ("nWidth", .int, (32 : Int32)) := rfl
theorem fA_9 : K.2.2[9]? = some ("nX", .int, (32 : Int32)) := rfl
theorem fA_10 : K.2.2[10]? = some ("nY", .int, (32 : Int32)) := rfl
theorem fA_11 : K.2.2[11]? = some ("nKind", .int, (32 : Int32)) := rfl
theorem fA_12 : K.2.2[12]? = some ("nPacked", .int, (32 : Int32)) := rfl
theorem fA_13 : K.2.2[13]? = some ("nAtStart", .int, (32 : Int32)) := rfl
theorem fA_14 : K.2.2[14]? = some ("nAtCnt", .int, (32 : Int32)) := rfl
theorem fA_15 : K.2.2[15]? = some ("aOp", .int, (64 : Int32)) := rfl
theorem fA_16 : K.2.2[16]? = some ("aA", .int, (64 : Int32)) := rfl
theorem fA_17 : K.2.2[17]? = some ("aB", .int, (64 : Int32)) := rfl
theorem fA_18 : K.2.2[18]? = some ("aFl", .int, (64 : Int32)) := rfl
theorem fA_19 : K.2.2[19]? = some ("viewNode", .int, (8 : Int32)) := rfl
theorem fA_20 : K.2.2[20]? = some ("weight", .int, (32 : Int32)) := rfl
theorem fA_21 : K.2.2[21]? = some ("reach", .boolean, (32 : Int32)) := rfl
theorem fA_22 : K.2.2[22]? = some ("bag", .int, (16384 : Int32)) := rfl
theorem fA_23 : K.2.2[23]? = some ("bagCnt", .int, (32 : Int32)) := rfl
theorem fA_24 : K.2.2[24]? = some ("rowBuf", .int, (16 : Int32)) := rfl
theorem fA_25 : K.2.2[25]? = some ("res", .int, (512 : Int32)) := rfl
theorem fA_26 : K.2.2[26]? = some ("plType", .int, (16 : Int32)) := rfl
theorem fA_27 : K.2.2[27]? = some ("plTable", .int, (16 : Int32)) := rfl
theorem fA_28 : K.2.2[28]? = some ("plLeft", .int, (16 : Int32)) := rfl
theorem fA_29 : K.2.2[29]? = some ("plRight", .int, (16 : Int32)) := rfl
theorem fA_30 : K.2.2[30]? = some ("plKind", .int, (16 : Int32)) := rfl
theorem fA_31 : K.2.2[31]? = some ("plLen", .int, (16 : Int32)) := rfl
theorem fA_32 : K.2.2[32]? = some ("plMap", .int, (128 : Int32)) := rfl
theorem fA_33 : K.2.2[33]? = some ("needMask", .int, (16 : Int32)) := rfl
theorem fA_34 : K.2.2[34]? = some ("plEmpty", .boolean, (16 : Int32)) := rfl
theorem fA_35 : K.2.2[35]? = some ("head", .int, (32 : Int32)) := rfl
theorem fA_36 : K.2.2[36]? = some ("qOp", .int, (512 : Int32)) := rfl
theorem fA_37 : K.2.2[37]? = some ("qA", .int, (512 : Int32)) := rfl
theorem fA_38 : K.2.2[38]? = some ("qB", .int, (512 : Int32)) := rfl
theorem fA_39 : K.2.2[39]? = some ("qFl", .int, (512 : Int32)) := rfl
theorem fA_40 : K.2.2[40]? = some ("qNext", .int, (512 : Int32)) := rfl
theorem fA_41 : K.2.2[41]? = some ("stNode", .int, (64 : Int32)) := rfl
theorem fA_42 : K.2.2[42]? = some ("stPhase", .int, (64 : Int32)) := rfl
theorem fA_43 : K.2.2[43]? = some ("resStack", .int, (64 : Int32)) := rfl
theorem fA_44 : K.2.2[44]? = some ("tmpMap", .int, (8 : Int32)) := rfl
theorem cb_8 : (Int8.ofInt 8).toInt32 = (8 : Int32) := by decide
theorem cb_16 : (Int8.ofInt 16).toInt32 = (16 : Int32) := by decide
theorem cb_32 : (Int8.ofInt 32).toInt32 = (32 : Int32) := by decide
theorem cb_64 : (Int8.ofInt 64).toInt32 = (64 : Int32) := by decide
theorem cb_96 : (Int8.ofInt 96).toInt32 = (96 : Int32) := by decide
theorem ci_m1 : Int32.ofInt (-1) = (-1 : Int32) := by decide
theorem ci_0 : Int32.ofInt 0 = (0 : Int32) := by decide
theorem ci_1 : Int32.ofInt 1 = (1 : Int32) := by decide
theorem ci_2 : Int32.ofInt 2 = (2 : Int32) := by decide
theorem ci_3 : Int32.ofInt 3 = (3 : Int32) := by decide
theorem ci_4 : Int32.ofInt 4 = (4 : Int32) := by decide
theorem cs_128 : (Int16.ofInt 128).toInt32 = (128 : Int32) := by decide
theorem cs_512 : (Int16.ofInt 512).toInt32 = (512 : Int32) := by decide
theorem cs_16384 : (Int16.ofInt 16384).toInt32 = (16384 : Int32) := by decide
def B2 : Bdy := ((⟨"QueryRewriter", "clamp", "(III)I"⟩ : MethodName), prog_1_method_2_code, 4, (some .int), ({ frames := 0, cells := 0, slots := 0, locals := 0 } : Room))
theorem d2_0 : DAt B2 0 (.iload_n 1) 1 1 := ⟨by decide +kernel, rfl⟩
theorem d2_1 : DAt B2 1 (.iload_n 2) 1 2 := ⟨by decide +kernel, rfl⟩
theorem d2_2 : DAt B2 2 (.if_icmp .ge 5) 3 5 := ⟨by decide +kernel, rfl⟩
theorem d2_5 : DAt B2 5 (.iload_n 2) 1 6 := ⟨by decide +kernel, rfl⟩
theorem d2_6 : DAt B2 6 (.ireturn) 1 7 := ⟨by decide +kernel, rfl⟩
theorem d2_7 : DAt B2 7 (.iload_n 1) 1 8 := ⟨by decide +kernel, rfl⟩
theorem d2_8 : DAt B2 8 (.iload_n 3) 1 9 := ⟨by decide +kernel, rfl⟩
theorem d2_9 : DAt B2 9 (.if_icmp .le 5) 3 12 := ⟨by decide +kernel, rfl⟩
theorem d2_12 : DAt B2 12 (.iload_n 3) 1 13 := ⟨by decide +kernel, rfl⟩
theorem d2_13 : DAt B2 13 (.ireturn) 1 14 := ⟨by decide +kernel, rfl⟩
theorem d2_14 : DAt B2 14 (.iload_n 1) 1 15 := ⟨by decide +kernel, rfl⟩
theorem d2_15 : DAt B2 15 (.ireturn) 1 16 := ⟨by decide +kernel, rfl⟩
def B1 : Bdy := ((⟨"QueryRewriter", "<init>", "(II)V"⟩ : MethodName), prog_1_method_1_code, 3, none, ({ frames := 1, cells := 45, slots := 20696, locals := 16 } : Room))
theorem d1_0 : DAt B1 0 (.aload_n 0) 1 1 := ⟨by decide +kernel, rfl⟩
theorem d1_1 : DAt B1 1 (.invokespecial 1) 3 4 := ⟨by decide +kernel, rfl⟩
theorem d1_4 : DAt B1 4 (.aload_n 0) 1 5 := ⟨by decide +kernel, rfl⟩
theorem d1_5 : DAt B1 5 (.iconst 0) 1 6 := ⟨by decide +kernel, rfl⟩
theorem d1_6 : DAt B1 6 (.putfield 7) 3 9 := ⟨by decide +kernel, rfl⟩
theorem d1_9 : DAt B1 9 (.aload_n 0) 1 10 := ⟨by decide +kernel, rfl⟩
theorem d1_10 : DAt B1 10 (.iconst 1) 1 11 := ⟨by decide +kernel, rfl⟩
theorem d1_11 : DAt B1 11 (.putfield 13) 3 14 := ⟨by decide +kernel, rfl⟩
theorem d1_14 : DAt B1 14 (.aload_n 0) 1 15 := ⟨by decide +kernel, rfl⟩
theorem d1_15 : DAt B1 15 (.iconst 2) 1 16 := ⟨by decide +kernel, rfl⟩
theorem d1_16 : DAt B1 16 (.putfield 16) 3 19 := ⟨by decide +kernel, rfl⟩
theorem d1_19 : DAt B1 19 (.aload_n 0) 1 20 := ⟨by decide +kernel, rfl⟩
theorem d1_20 : DAt B1 20 (.iconst 3) 1 21 := ⟨by decide +kernel, rfl⟩
theorem d1_21 : DAt B1 21 (.putfield 19) 3 24 := ⟨by decide +kernel, rfl⟩
theorem d1_24 : DAt B1 24 (.aload_n 0) 1 25 := ⟨by decide +kernel, rfl⟩
theorem d1_25 : DAt B1 25 (.iconst 4) 1 26 := ⟨by decide +kernel, rfl⟩
theorem d1_26 : DAt B1 26 (.putfield 22) 3 29 := ⟨by decide +kernel, rfl⟩
theorem d1_29 : DAt B1 29 (.aload_n 0) 1 30 := ⟨by decide +kernel, rfl⟩
theorem d1_30 : DAt B1 30 (.iconst 0) 1 31 := ⟨by decide +kernel, rfl⟩
theorem d1_31 : DAt B1 31 (.putfield 25) 3 34 := ⟨by decide +kernel, rfl⟩
theorem d1_34 : DAt B1 34 (.aload_n 0) 1 35 := ⟨by decide +kernel, rfl⟩
theorem d1_35 : DAt B1 35 (.iconst 1) 1 36 := ⟨by decide +kernel, rfl⟩
theorem d1_36 : DAt B1 36 (.putfield 28) 3 39 := ⟨by decide +kernel, rfl⟩
theorem d1_39 : DAt B1 39 (.aload_n 0) 1 40 := ⟨by decide +kernel, rfl⟩
theorem d1_40 : DAt B1 40 (.iconst 4) 1 41 := ⟨by decide +kernel, rfl⟩
theorem d1_41 : DAt B1 41 (.newarray .int) 2 43 := ⟨by decide +kernel, rfl⟩
theorem d1_43 : DAt B1 43 (.putfield 31) 3 46 := ⟨by decide +kernel, rfl⟩
theorem d1_46 : DAt B1 46 (.aload_n 0) 1 47 := ⟨by decide +kernel, rfl⟩
theorem d1_47 : DAt B1 47 (.iconst 4) 1 48 := ⟨by decide +kernel, rfl⟩
theorem d1_48 : DAt B1 48 (.newarray .int) 2 50 := ⟨by decide +kernel, rfl⟩
theorem d1_50 : DAt B1 50 (.putfield 35) 3 53 := ⟨by decide +kernel, rfl⟩
theorem d1_53 : DAt B1 53 (.aload_n 0) 1 54 := ⟨by decide +kernel, rfl⟩
theorem d1_54 : DAt B1 54 (.bipush 96) 2 56 := ⟨by decide +kernel, rfl⟩
theorem d1_56 : DAt B1 56 (.newarray .int) 2 58 := ⟨by decide +kernel, rfl⟩
theorem d1_58 : DAt B1 58 (.putfield 38) 3 61 := ⟨by decide +kernel, rfl⟩
theorem d1_61 : DAt B1 61 (.aload_n 0) 1 62 := ⟨by decide +kernel, rfl⟩
theorem d1_62 : DAt B1 62 (.iconst 4) 1 63 := ⟨by decide +kernel, rfl⟩
theorem d1_63 : DAt B1 63 (.newarray .int) 2 65 := ⟨by decide +kernel, rfl⟩
theorem d1_65 : DAt B1 65 (.putfield 41) 3 68 := ⟨by decide +kernel, rfl⟩
theorem d1_68 : DAt B1 68 (.aload_n 0) 1 69 := ⟨by decide +kernel, rfl⟩
theorem d1_69 : DAt B1 69 (.iconst 4) 1 70 := ⟨by decide +kernel, rfl⟩
theorem d1_70 : DAt B1 70 (.newarray .int) 2 72 := ⟨by decide +kernel, rfl⟩
theorem d1_72 : DAt B1 72 (.putfield 44) 3 75 := ⟨by decide +kernel, rfl⟩
theorem d1_75 : DAt B1 75 (.aload_n 0) 1 76 := ⟨by decide +kernel, rfl⟩
theorem d1_76 : DAt B1 76 (.iconst 4) 1 77 := ⟨by decide +kernel, rfl⟩
theorem d1_77 : DAt B1 77 (.newarray .int) 2 79 := ⟨by decide +kernel, rfl⟩
theorem d1_79 : DAt B1 79 (.putfield 47) 3 82 := ⟨by decide +kernel, rfl⟩
theorem d1_82 : DAt B1 82 (.aload_n 0) 1 83 := ⟨by decide +kernel, rfl⟩
theorem d1_83 : DAt B1 83 (.iconst 4) 1 84 := ⟨by decide +kernel, rfl⟩
theorem d1_84 : DAt B1 84 (.newarray .int) 2 86 := ⟨by decide +kernel, rfl⟩
theorem d1_86 : DAt B1 86 (.putfield 50) 3 89 := ⟨by decide +kernel, rfl⟩
theorem d1_89 : DAt B1 89 (.aload_n 0) 1 90 := ⟨by decide +kernel, rfl⟩
theorem d1_90 : DAt B1 90 (.bipush 32) 2 92 := ⟨by decide +kernel, rfl⟩
theorem d1_92 : DAt B1 92 (.newarray .int) 2 94 := ⟨by decide +kernel, rfl⟩
theorem d1_94 : DAt B1 94 (.putfield 53) 3 97 := ⟨by decide +kernel, rfl⟩
theorem d1_97 : DAt B1 97 (.aload_n 0) 1 98 := ⟨by decide +kernel, rfl⟩
theorem d1_98 : DAt B1 98 (.bipush 32) 2 100 := ⟨by decide +kernel, rfl⟩
theorem d1_100 : DAt B1 100 (.newarray .int) 2 102 := ⟨by decide +kernel, rfl⟩
theorem d1_102 : DAt B1 102 (.putfield 56) 3 105 := ⟨by decide +kernel, rfl⟩
theorem d1_105 : DAt B1 105 (.aload_n 0) 1 106 := ⟨by decide +kernel, rfl⟩
theorem d1_106 : DAt B1 106 (.bipush 32) 2 108 := ⟨by decide +kernel, rfl⟩
theorem d1_108 : DAt B1 108 (.newarray .int) 2 110 := ⟨by decide +kernel, rfl⟩
theorem d1_110 : DAt B1 110 (.putfield 59) 3 113 := ⟨by decide +kernel, rfl⟩
theorem d1_113 : DAt B1 113 (.aload_n 0) 1 114 := ⟨by decide +kernel, rfl⟩
theorem d1_114 : DAt B1 114 (.bipush 32) 2 116 := ⟨by decide +kernel, rfl⟩
theorem d1_116 : DAt B1 116 (.newarray .int) 2 118 := ⟨by decide +kernel, rfl⟩
theorem d1_118 : DAt B1 118 (.putfield 62) 3 121 := ⟨by decide +kernel, rfl⟩
theorem d1_121 : DAt B1 121 (.aload_n 0) 1 122 := ⟨by decide +kernel, rfl⟩
theorem d1_122 : DAt B1 122 (.bipush 32) 2 124 := ⟨by decide +kernel, rfl⟩
theorem d1_124 : DAt B1 124 (.newarray .int) 2 126 := ⟨by decide +kernel, rfl⟩
theorem d1_126 : DAt B1 126 (.putfield 65) 3 129 := ⟨by decide +kernel, rfl⟩
theorem d1_129 : DAt B1 129 (.aload_n 0) 1 130 := ⟨by decide +kernel, rfl⟩
theorem d1_130 : DAt B1 130 (.bipush 32) 2 132 := ⟨by decide +kernel, rfl⟩
theorem d1_132 : DAt B1 132 (.newarray .int) 2 134 := ⟨by decide +kernel, rfl⟩
theorem d1_134 : DAt B1 134 (.putfield 68) 3 137 := ⟨by decide +kernel, rfl⟩
theorem d1_137 : DAt B1 137 (.aload_n 0) 1 138 := ⟨by decide +kernel, rfl⟩
theorem d1_138 : DAt B1 138 (.bipush 32) 2 140 := ⟨by decide +kernel, rfl⟩
theorem d1_140 : DAt B1 140 (.newarray .int) 2 142 := ⟨by decide +kernel, rfl⟩
theorem d1_142 : DAt B1 142 (.putfield 71) 3 145 := ⟨by decide +kernel, rfl⟩
theorem d1_145 : DAt B1 145 (.aload_n 0) 1 146 := ⟨by decide +kernel, rfl⟩
theorem d1_146 : DAt B1 146 (.bipush 32) 2 148 := ⟨by decide +kernel, rfl⟩
theorem d1_148 : DAt B1 148 (.newarray .int) 2 150 := ⟨by decide +kernel, rfl⟩
theorem d1_150 : DAt B1 150 (.putfield 74) 3 153 := ⟨by decide +kernel, rfl⟩
theorem d1_153 : DAt B1 153 (.aload_n 0) 1 154 := ⟨by decide +kernel, rfl⟩
theorem d1_154 : DAt B1 154 (.bipush 64) 2 156 := ⟨by decide +kernel, rfl⟩
theorem d1_156 : DAt B1 156 (.newarray .int) 2 158 := ⟨by decide +kernel, rfl⟩
theorem d1_158 : DAt B1 158 (.putfield 77) 3 161 := ⟨by decide +kernel, rfl⟩
theorem d1_161 : DAt B1 161 (.aload_n 0) 1 162 := ⟨by decide +kernel, rfl⟩
theorem d1_162 : DAt B1 162 (.bipush 64) 2 164 := ⟨by decide +kernel, rfl⟩
theorem d1_164 : DAt B1 164 (.newarray .int) 2 166 := ⟨by decide +kernel, rfl⟩
theorem d1_166 : DAt B1 166 (.putfield 80) 3 169 := ⟨by decide +kernel, rfl⟩
theorem d1_169 : DAt B1 169 (.aload_n 0) 1 170 := ⟨by decide +kernel, rfl⟩
theorem d1_170 : DAt B1 170 (.bipush 64) 2 172 := ⟨by decide +kernel, rfl⟩
theorem d1_172 : DAt B1 172 (.newarray .int) 2 174 := ⟨by decide +kernel, rfl⟩
theorem d1_174 : DAt B1 174 (.putfield 83) 3 177 := ⟨by decide +kernel, rfl⟩
theorem d1_177 : DAt B1 177 (.aload_n 0) 1 178 := ⟨by decide +kernel, rfl⟩
theorem d1_178 : DAt B1 178 (.bipush 64) 2 180 := ⟨by decide +kernel, rfl⟩
theorem d1_180 : DAt B1 180 (.newarray .int) 2 182 := ⟨by decide +kernel, rfl⟩
theorem d1_182 : DAt B1 182 (.putfield 86) 3 185 := ⟨by decide +kernel, rfl⟩
theorem d1_185 : DAt B1 185 (.aload_n 0) 1 186 := ⟨by decide +kernel, rfl⟩
theorem d1_186 : DAt B1 186 (.bipush 8) 2 188 := ⟨by decide +kernel, rfl⟩
theorem d1_188 : DAt B1 188 (.newarray .int) 2 190 := ⟨by decide +kernel, rfl⟩
theorem d1_190 : DAt B1 190 (.putfield 89) 3 193 := ⟨by decide +kernel, rfl⟩
theorem d1_193 : DAt B1 193 (.aload_n 0) 1 194 := ⟨by decide +kernel, rfl⟩
theorem d1_194 : DAt B1 194 (.bipush 32) 2 196 := ⟨by decide +kernel, rfl⟩
theorem d1_196 : DAt B1 196 (.newarray .int) 2 198 := ⟨by decide +kernel, rfl⟩
theorem d1_198 : DAt B1 198 (.putfield 92) 3 201 := ⟨by decide +kernel, rfl⟩
theorem d1_201 : DAt B1 201 (.aload_n 0) 1 202 := ⟨by decide +kernel, rfl⟩
theorem d1_202 : DAt B1 202 (.bipush 32) 2 204 := ⟨by decide +kernel, rfl⟩
theorem d1_204 : DAt B1 204 (.newarray .boolean) 2 206 := ⟨by decide +kernel, rfl⟩
theorem d1_206 : DAt B1 206 (.putfield 95) 3 209 := ⟨by decide +kernel, rfl⟩
theorem d1_209 : DAt B1 209 (.aload_n 0) 1 210 := ⟨by decide +kernel, rfl⟩
theorem d1_210 : DAt B1 210 (.sipush 16384) 3 213 := ⟨by decide +kernel, rfl⟩
theorem d1_213 : DAt B1 213 (.newarray .int) 2 215 := ⟨by decide +kernel, rfl⟩
theorem d1_215 : DAt B1 215 (.putfield 99) 3 218 := ⟨by decide +kernel, rfl⟩
theorem d1_218 : DAt B1 218 (.aload_n 0) 1 219 := ⟨by decide +kernel, rfl⟩
theorem d1_219 : DAt B1 219 (.bipush 32) 2 221 := ⟨by decide +kernel, rfl⟩
theorem d1_221 : DAt B1 221 (.newarray .int) 2 223 := ⟨by decide +kernel, rfl⟩
theorem d1_223 : DAt B1 223 (.putfield 102) 3 226 := ⟨by decide +kernel, rfl⟩
theorem d1_226 : DAt B1 226 (.aload_n 0) 1 227 := ⟨by decide +kernel, rfl⟩
theorem d1_227 : DAt B1 227 (.bipush 16) 2 229 := ⟨by decide +kernel, rfl⟩
theorem d1_229 : DAt B1 229 (.newarray .int) 2 231 := ⟨by decide +kernel, rfl⟩
theorem d1_231 : DAt B1 231 (.putfield 105) 3 234 := ⟨by decide +kernel, rfl⟩
theorem d1_234 : DAt B1 234 (.aload_n 0) 1 235 := ⟨by decide +kernel, rfl⟩
theorem d1_235 : DAt B1 235 (.sipush 512) 3 238 := ⟨by decide +kernel, rfl⟩
theorem d1_238 : DAt B1 238 (.newarray .int) 2 240 := ⟨by decide +kernel, rfl⟩
theorem d1_240 : DAt B1 240 (.putfield 108) 3 243 := ⟨by decide +kernel, rfl⟩
theorem d1_243 : DAt B1 243 (.aload_n 0) 1 244 := ⟨by decide +kernel, rfl⟩
theorem d1_244 : DAt B1 244 (.bipush 16) 2 246 := ⟨by decide +kernel, rfl⟩
theorem d1_246 : DAt B1 246 (.newarray .int) 2 248 := ⟨by decide +kernel, rfl⟩
theorem d1_248 : DAt B1 248 (.putfield 111) 3 251 := ⟨by decide +kernel, rfl⟩
theorem d1_251 : DAt B1 251 (.aload_n 0) 1 252 := ⟨by decide +kernel, rfl⟩
theorem d1_252 : DAt B1 252 (.bipush 16) 2 254 := ⟨by decide +kernel, rfl⟩
theorem d1_254 : DAt B1 254 (.newarray .int) 2 256 := ⟨by decide +kernel, rfl⟩
theorem d1_256 : DAt B1 256 (.putfield 114) 3 259 := ⟨by decide +kernel, rfl⟩
theorem d1_259 : DAt B1 259 (.aload_n 0) 1 260 := ⟨by decide +kernel, rfl⟩
theorem d1_260 : DAt B1 260 (.bipush 16) 2 262 := ⟨by decide +kernel, rfl⟩
theorem d1_262 : DAt B1 262 (.newarray .int) 2 264 := ⟨by decide +kernel, rfl⟩
theorem d1_264 : DAt B1 264 (.putfield 117) 3 267 := ⟨by decide +kernel, rfl⟩
theorem d1_267 : DAt B1 267 (.aload_n 0) 1 268 := ⟨by decide +kernel, rfl⟩
theorem d1_268 : DAt B1 268 (.bipush 16) 2 270 := ⟨by decide +kernel, rfl⟩
theorem d1_270 : DAt B1 270 (.newarray .int) 2 272 := ⟨by decide +kernel, rfl⟩
theorem d1_272 : DAt B1 272 (.putfield 120) 3 275 := ⟨by decide +kernel, rfl⟩
theorem d1_275 : DAt B1 275 (.aload_n 0) 1 276 := ⟨by decide +kernel, rfl⟩
theorem d1_276 : DAt B1 276 (.bipush 16) 2 278 := ⟨by decide +kernel, rfl⟩
theorem d1_278 : DAt B1 278 (.newarray .int) 2 280 := ⟨by decide +kernel, rfl⟩
theorem d1_280 : DAt B1 280 (.putfield 123) 3 283 := ⟨by decide +kernel, rfl⟩
theorem d1_283 : DAt B1 283 (.aload_n 0) 1 284 := ⟨by decide +kernel, rfl⟩
theorem d1_284 : DAt B1 284 (.bipush 16) 2 286 := ⟨by decide +kernel, rfl⟩
theorem d1_286 : DAt B1 286 (.newarray .int) 2 288 := ⟨by decide +kernel, rfl⟩
theorem d1_288 : DAt B1 288 (.putfield 126) 3 291 := ⟨by decide +kernel, rfl⟩
theorem d1_291 : DAt B1 291 (.aload_n 0) 1 292 := ⟨by decide +kernel, rfl⟩
theorem d1_292 : DAt B1 292 (.sipush 128) 3 295 := ⟨by decide +kernel, rfl⟩
theorem d1_295 : DAt B1 295 (.newarray .int) 2 297 := ⟨by decide +kernel, rfl⟩
theorem d1_297 : DAt B1 297 (.putfield 129) 3 300 := ⟨by decide +kernel, rfl⟩
theorem d1_300 : DAt B1 300 (.aload_n 0) 1 301 := ⟨by decide +kernel, rfl⟩
theorem d1_301 : DAt B1 301 (.bipush 16) 2 303 := ⟨by decide +kernel, rfl⟩
theorem d1_303 : DAt B1 303 (.newarray .int) 2 305 := ⟨by decide +kernel, rfl⟩
theorem d1_305 : DAt B1 305 (.putfield 132) 3 308 := ⟨by decide +kernel, rfl⟩
theorem d1_308 : DAt B1 308 (.aload_n 0) 1 309 := ⟨by decide +kernel, rfl⟩
theorem d1_309 : DAt B1 309 (.bipush 16) 2 311 := ⟨by decide +kernel, rfl⟩
theorem d1_311 : DAt B1 311 (.newarray .boolean) 2 313 := ⟨by decide +kernel, rfl⟩
theorem d1_313 : DAt B1 313 (.putfield 135) 3 316 := ⟨by decide +kernel, rfl⟩
theorem d1_316 : DAt B1 316 (.aload_n 0) 1 317 := ⟨by decide +kernel, rfl⟩
theorem d1_317 : DAt B1 317 (.bipush 32) 2 319 := ⟨by decide +kernel, rfl⟩
theorem d1_319 : DAt B1 319 (.newarray .int) 2 321 := ⟨by decide +kernel, rfl⟩
theorem d1_321 : DAt B1 321 (.putfield 138) 3 324 := ⟨by decide +kernel, rfl⟩
theorem d1_324 : DAt B1 324 (.aload_n 0) 1 325 := ⟨by decide +kernel, rfl⟩
theorem d1_325 : DAt B1 325 (.sipush 512) 3 328 := ⟨by decide +kernel, rfl⟩
theorem d1_328 : DAt B1 328 (.newarray .int) 2 330 := ⟨by decide +kernel, rfl⟩
theorem d1_330 : DAt B1 330 (.putfield 141) 3 333 := ⟨by decide +kernel, rfl⟩
theorem d1_333 : DAt B1 333 (.aload_n 0) 1 334 := ⟨by decide +kernel, rfl⟩
theorem d1_334 : DAt B1 334 (.sipush 512) 3 337 := ⟨by decide +kernel, rfl⟩
theorem d1_337 : DAt B1 337 (.newarray .int) 2 339 := ⟨by decide +kernel, rfl⟩
theorem d1_339 : DAt B1 339 (.putfield 144) 3 342 := ⟨by decide +kernel, rfl⟩
theorem d1_342 : DAt B1 342 (.aload_n 0) 1 343 := ⟨by decide +kernel, rfl⟩
theorem d1_343 : DAt B1 343 (.sipush 512) 3 346 := ⟨by decide +kernel, rfl⟩
theorem d1_346 : DAt B1 346 (.newarray .int) 2 348 := ⟨by decide +kernel, rfl⟩
theorem d1_348 : DAt B1 348 (.putfield 147) 3 351 := ⟨by decide +kernel, rfl⟩
theorem d1_351 : DAt B1 351 (.aload_n 0) 1 352 := ⟨by decide +kernel, rfl⟩
theorem d1_352 : DAt B1 352 (.sipush 512) 3 355 := ⟨by decide +kernel, rfl⟩
theorem d1_355 : DAt B1 355 (.newarray .int) 2 357 := ⟨by decide +kernel, rfl⟩
theorem d1_357 : DAt B1 357 (.putfield 150) 3 360 := ⟨by decide +kernel, rfl⟩
theorem d1_360 : DAt B1 360 (.aload_n 0) 1 361 := ⟨by decide +kernel, rfl⟩
theorem d1_361 : DAt B1 361 (.sipush 512) 3 364 := ⟨by decide +kernel, rfl⟩
theorem d1_364 : DAt B1 364 (.newarray .int) 2 366 := ⟨by decide +kernel, rfl⟩
theorem d1_366 : DAt B1 366 (.putfield 153) 3 369 := ⟨by decide +kernel, rfl⟩
theorem d1_369 : DAt B1 369 (.aload_n 0) 1 370 := ⟨by decide +kernel, rfl⟩
theorem d1_370 : DAt B1 370 (.bipush 64) 2 372 := ⟨by decide +kernel, rfl⟩
theorem d1_372 : DAt B1 372 (.newarray .int) 2 374 := ⟨by decide +kernel, rfl⟩
theorem d1_374 : DAt B1 374 (.putfield 156) 3 377 := ⟨by decide +kernel, rfl⟩
theorem d1_377 : DAt B1 377 (.aload_n 0) 1 378 := ⟨by decide +kernel, rfl⟩
theorem d1_378 : DAt B1 378 (.bipush 64) 2 380 := ⟨by decide +kernel, rfl⟩
theorem d1_380 : DAt B1 380 (.newarray .int) 2 382 := ⟨by decide +kernel, rfl⟩
theorem d1_382 : DAt B1 382 (.putfield 159) 3 385 := ⟨by decide +kernel, rfl⟩
theorem d1_385 : DAt B1 385 (.aload_n 0) 1 386 := ⟨by decide +kernel, rfl⟩
theorem d1_386 : DAt B1 386 (.bipush 64) 2 388 := ⟨by decide +kernel, rfl⟩
theorem d1_388 : DAt B1 388 (.newarray .int) 2 390 := ⟨by decide +kernel, rfl⟩
theorem d1_390 : DAt B1 390 (.putfield 162) 3 393 := ⟨by decide +kernel, rfl⟩
theorem d1_393 : DAt B1 393 (.aload_n 0) 1 394 := ⟨by decide +kernel, rfl⟩
theorem d1_394 : DAt B1 394 (.bipush 8) 2 396 := ⟨by decide +kernel, rfl⟩
theorem d1_396 : DAt B1 396 (.newarray .int) 2 398 := ⟨by decide +kernel, rfl⟩
theorem d1_398 : DAt B1 398 (.putfield 165) 3 401 := ⟨by decide +kernel, rfl⟩
theorem d1_401 : DAt B1 401 (.aload_n 0) 1 402 := ⟨by decide +kernel, rfl⟩
theorem d1_402 : DAt B1 402 (.aload_n 0) 1 403 := ⟨by decide +kernel, rfl⟩
theorem d1_403 : DAt B1 403 (.iload_n 1) 1 404 := ⟨by decide +kernel, rfl⟩
theorem d1_404 : DAt B1 404 (.iconst 1) 1 405 := ⟨by decide +kernel, rfl⟩
theorem d1_405 : DAt B1 405 (.bipush 8) 2 407 := ⟨by decide +kernel, rfl⟩
theorem d1_407 : DAt B1 407 (.invokevirtual 168) 3 410 := ⟨by decide +kernel, rfl⟩
theorem d1_410 : DAt B1 410 (.putfield 172) 3 413 := ⟨by decide +kernel, rfl⟩
theorem d1_413 : DAt B1 413 (.aload_n 0) 1 414 := ⟨by decide +kernel, rfl⟩
theorem d1_414 : DAt B1 414 (.aload_n 0) 1 415 := ⟨by decide +kernel, rfl⟩
theorem d1_415 : DAt B1 415 (.iload_n 2) 1 416 := ⟨by decide +kernel, rfl⟩
theorem d1_416 : DAt B1 416 (.bipush 16) 2 418 := ⟨by decide +kernel, rfl⟩
theorem d1_418 : DAt B1 418 (.bipush 64) 2 420 := ⟨by decide +kernel, rfl⟩
theorem d1_420 : DAt B1 420 (.invokevirtual 168) 3 423 := ⟨by decide +kernel, rfl⟩
theorem d1_423 : DAt B1 423 (.putfield 175) 3 426 := ⟨by decide +kernel, rfl⟩
theorem d1_426 : DAt B1 426 (.return_) 1 427 := ⟨by decide +kernel, rfl⟩
def B3 : Bdy := ((⟨"QueryRewriter", "resultWidth", "()I"⟩ : MethodName), prog_1_method_22_code, 1, (some .int), ({ frames := 0, cells := 0, slots := 0, locals := 0 } : Room))
theorem d3_0 : DAt B3 0 (.aload_n 0) 1 1 := ⟨by decide +kernel, rfl⟩
theorem d3_1 : DAt B3 1 (.getfield 219) 3 4 := ⟨by decide +kernel, rfl⟩
theorem d3_4 : DAt B3 4 (.ireturn) 1 5 := ⟨by decide +kernel, rfl⟩
def B4 : Bdy := ((⟨"QueryRewriter", "resultCell", "(II)I"⟩ : MethodName), prog_1_method_23_code, 3, (some .int), ({ frames := 0, cells := 0, slots := 0, locals := 0 } : Room))
theorem d4_0 : DAt B4 0 (.iload_n 1) 1 1 := ⟨by decide +kernel, rfl⟩
theorem d4_1 : DAt B4 1 (.ifCond .lt 23) 3 4 := ⟨by decide +kernel, rfl⟩
theorem d4_4 : DAt B4 4 (.iload_n 1) 1 5 := ⟨by decide +kernel, rfl⟩
theorem d4_5 : DAt B4 5 (.aload_n 0) 1 6 := ⟨by decide +kernel, rfl⟩
theorem d4_6 : DAt B4 6 (.getfield 222) 3 9 := ⟨by decide +kernel, rfl⟩
theorem d4_9 : DAt B4 9 (.if_icmp .ge 15) 3 12 := ⟨by decide +kernel, rfl⟩
theorem d4_12 : DAt B4 12 (.iload_n 2) 1 13 := ⟨by decide +kernel, rfl⟩
theorem d4_13 : DAt B4 13 (.ifCond .lt 11) 3 16 := ⟨by decide +kernel, rfl⟩
theorem d4_16 : DAt B4 16 (.iload_n 2) 1 17 := ⟨by decide +kernel, rfl⟩
theorem d4_17 : DAt B4 17 (.aload_n 0) 1 18 := ⟨by decide +kernel, rfl⟩
theorem d4_18 : DAt B4 18 (.getfield 219) 3 21 := ⟨by decide +kernel, rfl⟩
theorem d4_21 : DAt B4 21 (.if_icmp .lt 5) 3 24 := ⟨by decide +kernel, rfl⟩
theorem d4_24 : DAt B4 24 (.iconst 0) 1 25 := ⟨by decide +kernel, rfl⟩
theorem d4_25 : DAt B4 25 (.ireturn) 1 26 := ⟨by decide +kernel, rfl⟩
theorem d4_26 : DAt B4 26 (.aload_n 0) 1 27 := ⟨by decide +kernel, rfl⟩
theorem d4_27 : DAt B4 27 (.getfield 108) 3 30 := ⟨by decide +kernel, rfl⟩
theorem d4_30 : DAt B4 30 (.iload_n 1) 1 31 := ⟨by decide +kernel, rfl⟩
theorem d4_31 : DAt B4 31 (.bipush 8) 2 33 := ⟨by decide +kernel, rfl⟩
theorem d4_33 : DAt B4 33 (.imul) 1 34 := ⟨by decide +kernel, rfl⟩
theorem d4_34 : DAt B4 34 (.iload_n 2) 1 35 := ⟨by decide +kernel, rfl⟩
theorem d4_35 : DAt B4 35 (.iadd) 1 36 := ⟨by decide +kernel, rfl⟩
theorem d4_36 : DAt B4 36 (.iaload) 1 37 := ⟨by decide +kernel, rfl⟩
theorem d4_37 : DAt B4 37 (.ireturn) 1 38 := ⟨by decide +kernel, rfl⟩
def B6 : Bdy := ((⟨"QueryRewriter", "tableExists", "(I)Z"⟩ : MethodName), prog_1_method_4_code, 2, (some .boolean), ({ frames := 0, cells := 0, slots := 0, locals := 0 } : Room))
theorem d6_0 : DAt B6 0 (.iload_n 1) 1 1 := ⟨by decide +kernel, rfl⟩
theorem d6_1 : DAt B6 1 (.ifCond .lt 21) 3 4 := ⟨by decide +kernel, rfl⟩
theorem d6_4 : DAt B6 4 (.iload_n 1) 1 5 := ⟨by decide +kernel, rfl⟩
theorem d6_5 : DAt B6 5 (.iconst 4) 1 6 := ⟨by decide +kernel, rfl⟩
theorem d6_6 : DAt B6 6 (.if_icmp .ge 16) 3 9 := ⟨by decide +kernel, rfl⟩
theorem d6_9 : DAt B6 9 (.aload_n 0) 1 10 := ⟨by decide +kernel, rfl⟩
theorem d6_10 : DAt B6 10 (.getfield 31) 3 13 := ⟨by decide +kernel, rfl⟩
theorem d6_13 : DAt B6 13 (.iload_n 1) 1 14 := ⟨by decide +kernel, rfl⟩
theorem d6_14 : DAt B6 14 (.iaload) 1 15 := ⟨by decide +kernel, rfl⟩
theorem d6_15 : DAt B6 15 (.ifCond .eq 7) 3 18 := ⟨by decide +kernel, rfl⟩
theorem d6_18 : DAt B6 18 (.iconst 1) 1 19 := ⟨by decide +kernel, rfl⟩
theorem d6_19 : DAt B6 19 (.goto 4) 3 22 := ⟨by decide +kernel, rfl⟩
theorem d6_22 : DAt B6 22 (.iconst 0) 1 23 := ⟨by decide +kernel, rfl⟩
theorem d6_23 : DAt B6 23 (.ireturn) 1 24 := ⟨by decide +kernel, rfl⟩
def B5 : Bdy := ((⟨"QueryRewriter", "tableRows", "(I)I"⟩ : MethodName), prog_1_method_7_code, 2, (some .int), ({ frames := 1, cells := 0, slots := 0, locals := 13 } : Room))
theorem d5_0 : DAt B5 0 (.aload_n 0) 1 1 := ⟨by decide +kernel, rfl⟩
theorem d5_1 : DAt B5 1 (.iload_n 1) 1 2 := ⟨by decide +kernel, rfl⟩
theorem d5_2 : DAt B5 2 (.invokevirtual 178) 3 5 := ⟨by decide +kernel, rfl⟩
theorem d5_5 : DAt B5 5 (.ifCond .ne 5) 3 8 := ⟨by decide +kernel, rfl⟩
theorem d5_8 : DAt B5 8 (.iconst (-1)) 1 9 := ⟨by decide +kernel, rfl⟩
theorem d5_9 : DAt B5 9 (.ireturn) 1 10 := ⟨by decide +kernel, rfl⟩
theorem d5_10 : DAt B5 10 (.aload_n 0) 1 11 := ⟨by decide +kernel, rfl⟩
theorem d5_11 : DAt B5 11 (.getfield 35) 3 14 := ⟨by decide +kernel, rfl⟩
theorem d5_14 : DAt B5 14 (.iload_n 1) 1 15 := ⟨by decide +kernel, rfl⟩
theorem d5_15 : DAt B5 15 (.iaload) 1 16 := ⟨by decide +kernel, rfl⟩
theorem d5_16 : DAt B5 16 (.ireturn) 1 17 := ⟨by decide +kernel, rfl⟩
def B8 : Bdy := ((⟨"QueryRewriter", "nodeExists", "(I)Z"⟩ : MethodName), prog_1_method_12_code, 2, (some .boolean), ({ frames := 0, cells := 0, slots := 0, locals := 0 } : Room))
theorem d8_0 : DAt B8 0 (.iload_n 1) 1 1 := ⟨by decide +kernel, rfl⟩
theorem d8_1 : DAt B8 1 (.ifCond .lt 15) 3 4 := ⟨by decide +kernel, rfl⟩
theorem d8_4 : DAt B8 4 (.iload_n 1) 1 5 := ⟨by decide +kernel, rfl⟩
theorem d8_5 : DAt B8 5 (.aload_n 0) 1 6 := ⟨by decide +kernel, rfl⟩
theorem d8_6 : DAt B8 6 (.getfield 188) 3 9 := ⟨by decide +kernel, rfl⟩
theorem d8_9 : DAt B8 9 (.if_icmp .ge 7) 3 12 := ⟨by decide +kernel, rfl⟩
theorem d8_12 : DAt B8 12 (.iconst 1) 1 13 := ⟨by decide +kernel, rfl⟩
theorem d8_13 : DAt B8 13 (.goto 4) 3 16 := ⟨by decide +kernel, rfl⟩
theorem d8_16 : DAt B8 16 (.iconst 0) 1 17 := ⟨by decide +kernel, rfl⟩
theorem d8_17 : DAt B8 17 (.ireturn) 1 18 := ⟨by decide +kernel, rfl⟩
def B7 : Bdy := ((⟨"QueryRewriter", "nodeWidth", "(I)I"⟩ : MethodName), prog_1_method_20_code, 2, (some .int), ({ frames := 1, cells := 0, slots := 0, locals := 13 } : Room))
theorem d7_0 : DAt B7 0 (.aload_n 0) 1 1 := ⟨by decide +kernel, rfl⟩
theorem d7_1 : DAt B7 1 (.iload_n 1) 1 2 := ⟨by decide +kernel, rfl⟩
theorem d7_2 : DAt B7 2 (.invokevirtual 195) 3 5 := ⟨by decide +kernel, rfl⟩
theorem d7_5 : DAt B7 5 (.ifCond .ne 5) 3 8 := ⟨by decide +kernel, rfl⟩
theorem d7_8 : DAt B7 8 (.iconst (-1)) 1 9 := ⟨by decide +kernel, rfl⟩
theorem d7_9 : DAt B7 9 (.ireturn) 1 10 := ⟨by decide +kernel, rfl⟩
theorem d7_10 : DAt B7 10 (.aload_n 0) 1 11 := ⟨by decide +kernel, rfl⟩
theorem d7_11 : DAt B7 11 (.getfield 56) 3 14 := ⟨by decide +kernel, rfl⟩
theorem d7_14 : DAt B7 14 (.iload_n 1) 1 15 := ⟨by decide +kernel, rfl⟩
theorem d7_15 : DAt B7 15 (.iaload) 1 16 := ⟨by decide +kernel, rfl⟩
theorem d7_16 : DAt B7 16 (.ireturn) 1 17 := ⟨by decide +kernel, rfl⟩
def B9 : Bdy := ((⟨"QueryRewriter", "createTable", "(II)Z"⟩ : MethodName), prog_1_method_3_code, 3, (some .boolean), ({ frames := 0, cells := 0, slots := 0, locals := 0 } : Room))
theorem d9_0 : DAt B9 0 (.iload_n 1) 1 1 := ⟨by decide +kernel, rfl⟩
theorem d9_1 : DAt B9 1 (.ifCond .lt 18) 3 4 := ⟨by decide +kernel, rfl⟩
theorem d9_4 : DAt B9 4 (.iload_n 1) 1 5 := ⟨by decide +kernel, rfl⟩
theorem d9_5 : DAt B9 5 (.iconst 4) 1 6 := ⟨by decide +kernel, rfl⟩
theorem d9_6 : DAt B9 6 (.if_icmp .ge 13) 3 9 := ⟨by decide +kernel, rfl⟩
theorem d9_9 : DAt B9 9 (.iload_n 2) 1 10 := ⟨by decide +kernel, rfl⟩
theorem d9_10 : DAt B9 10 (.iconst 1) 1 11 := ⟨by decide +kernel, rfl⟩
theorem d9_11 : DAt B9 11 (.if_icmp .lt 8) 3 14 := ⟨by decide +kernel, rfl⟩
theorem d9_14 : DAt B9 14 (.iload_n 2) 1 15 := ⟨by decide +kernel, rfl⟩
theorem d9_15 : DAt B9 15 (.iconst 3) 1 16 := ⟨by decide +kernel, rfl⟩
theorem d9_16 : DAt B9 16 (.if_icmp .le 5) 3 19 := ⟨by decide +kernel, rfl⟩
theorem d9_19 : DAt B9 19 (.iconst 0) 1 20 := ⟨by decide +kernel, rfl⟩
theorem d9_20 : DAt B9 20 (.ireturn) 1 21 := ⟨by decide +kernel, rfl⟩
theorem d9_21 : DAt B9 21 (.aload_n 0) 1 22 := ⟨by decide +kernel, rfl⟩
theorem d9_22 : DAt B9 22 (.getfield 31) 3 25 := ⟨by decide +kernel, rfl⟩
theorem d9_25 : DAt B9 25 (.iload_n 1) 1 26 := ⟨by decide +kernel, rfl⟩
theorem d9_26 : DAt B9 26 (.iaload) 1 27 := ⟨by decide +kernel, rfl⟩
theorem d9_27 : DAt B9 27 (.ifCond .eq 5) 3 30 := ⟨by decide +kernel, rfl⟩
theorem d9_30 : DAt B9 30 (.iconst 0) 1 31 := ⟨by decide +kernel, rfl⟩
theorem d9_31 : DAt B9 31 (.ireturn) 1 32 := ⟨by decide +kernel, rfl⟩
theorem d9_32 : DAt B9 32 (.aload_n 0) 1 33 := ⟨by decide +kernel, rfl⟩
theorem d9_33 : DAt B9 33 (.getfield 31) 3 36 := ⟨by decide +kernel, rfl⟩
theorem d9_36 : DAt B9 36 (.iload_n 1) 1 37 := ⟨by decide +kernel, rfl⟩
theorem d9_37 : DAt B9 37 (.iload_n 2) 1 38 := ⟨by decide +kernel, rfl⟩
theorem d9_38 : DAt B9 38 (.iastore) 1 39 := ⟨by decide +kernel, rfl⟩
theorem d9_39 : DAt B9 39 (.aload_n 0) 1 40 := ⟨by decide +kernel, rfl⟩
theorem d9_40 : DAt B9 40 (.getfield 35) 3 43 := ⟨by decide +kernel, rfl⟩
theorem d9_43 : DAt B9 43 (.iload_n 1) 1 44 := ⟨by decide +kernel, rfl⟩
theorem d9_44 : DAt B9 44 (.iconst 0) 1 45 := ⟨by decide +kernel, rfl⟩
theorem d9_45 : DAt B9 45 (.iastore) 1 46 := ⟨by decide +kernel, rfl⟩
theorem d9_46 : DAt B9 46 (.iconst 1) 1 47 := ⟨by decide +kernel, rfl⟩
theorem d9_47 : DAt B9 47 (.ireturn) 1 48 := ⟨by decide +kernel, rfl⟩
def B0 : Bdy := (x, code, maxLocals, ret, room_1)
theorem d0_0 : DAt B0 0 (.new 7) 3 3 := ⟨at_0, rfl⟩
theorem d0_3 : DAt B0 3 (.dup) 1 4 := ⟨at_3, rfl⟩
theorem d0_4 : DAt B0 4 (.iload_n 0) 1 5 := ⟨at_4, rfl⟩
theorem d0_5 : DAt B0 5 (.iload_n 1) 1 6 := ⟨at_5, rfl⟩
theorem d0_6 : DAt B0 6 (.invokespecial 9) 3 9 := ⟨at_6, rfl⟩
theorem d0_9 : DAt B0 9 (.astore 6) 2 11 := ⟨at_9, rfl⟩
theorem d0_11 : DAt B0 11 (.aload 6) 2 13 := ⟨at_11, rfl⟩
theorem d0_13 : DAt B0 13 (.invokevirtual 12) 3 16 := ⟨at_13, rfl⟩
theorem d0_16 : DAt B0 16 (.istore 7) 2 18 := ⟨at_16, rfl⟩
theorem d0_18 : DAt B0 18 (.aload 6) 2 20 := ⟨at_18, rfl⟩
theorem d0_20 : DAt B0 20 (.iload 4) 2 22 := ⟨at_20, rfl⟩
theorem d0_22 : DAt B0 22 (.iload 5) 2 24 := ⟨at_22, rfl⟩
theorem d0_24 : DAt B0 24 (.invokevirtual 16) 3 27 := ⟨at_24, rfl⟩
theorem d0_27 : DAt B0 27 (.istore 8) 2 29 := ⟨at_27, rfl⟩
theorem d0_29 : DAt B0 29 (.aload 6) 2 31 := ⟨at_29, rfl⟩
theorem d0_31 : DAt B0 31 (.iload_n 2) 1 32 := ⟨at_31, rfl⟩
theorem d0_32 : DAt B0 32 (.invokevirtual 20) 3 35 := ⟨at_32, rfl⟩
theorem d0_35 : DAt B0 35 (.istore 9) 2 37 := ⟨at_35, rfl⟩
theorem d0_37 : DAt B0 37 (.aload 6) 2 39 := ⟨at_37, rfl⟩
theorem d0_39 : DAt B0 39 (.iload 4) 2 41 := ⟨at_39, rfl⟩
theorem d0_41 : DAt B0 41 (.invokevirtual 24) 3 44 := ⟨at_41, rfl⟩
theorem d0_44 : DAt B0 44 (.istore 10) 2 46 := ⟨at_44, rfl⟩
theorem d0_46 : DAt B0 46 (.aload 6) 2 48 := ⟨at_46, rfl⟩
theorem d0_48 : DAt B0 48 (.iload_n 2) 1 49 := ⟨at_48, rfl⟩
theorem d0_49 : DAt B0 49 (.iload_n 3) 1 50 := ⟨at_49, rfl⟩
theorem d0_50 : DAt B0 50 (.invokevirtual 27) 3 53 := ⟨at_50, rfl⟩
theorem d0_53 : DAt B0 53 (.istore 11) 2 55 := ⟨at_53, rfl⟩
theorem d0_55 : DAt B0 55 (.aload 6) 2 57 := ⟨at_55, rfl⟩
theorem d0_57 : DAt B0 57 (.iload_n 2) 1 58 := ⟨at_57, rfl⟩
theorem d0_58 : DAt B0 58 (.invokevirtual 20) 3 61 := ⟨at_58, rfl⟩
theorem d0_61 : DAt B0 61 (.istore 12) 2 63 := ⟨at_61, rfl⟩
theorem d0_63 : DAt B0 63 (.iload_n 2) 1 64 := ⟨at_63, rfl⟩
theorem d0_64 : DAt B0 64 (.ifCond .lt 22) 3 67 := ⟨at_64, rfl⟩
theorem d0_67 : DAt B0 67 (.iload_n 2) 1 68 := ⟨at_67, rfl⟩
theorem d0_68 : DAt B0 68 (.iconst 3) 1 69 := ⟨at_68, rfl⟩
theorem d0_69 : DAt B0 69 (.if_icmp .gt 17) 3 72 := ⟨at_69, rfl⟩
theorem d0_72 : DAt B0 72 (.iload_n 3) 1 73 := ⟨at_72, rfl⟩
theorem d0_73 : DAt B0 73 (.iconst 1) 1 74 := ⟨at_73, rfl⟩
theorem d0_74 : DAt B0 74 (.if_icmp .lt 12) 3 77 := ⟨at_74, rfl⟩
theorem d0_77 : DAt B0 77 (.iload_n 3) 1 78 := ⟨at_77, rfl⟩
theorem d0_78 : DAt B0 78 (.iconst 3) 1 79 := ⟨at_78, rfl⟩
theorem d0_79 : DAt B0 79 (.if_icmp .gt 7) 3 82 := ⟨at_79, rfl⟩
theorem d0_82 : DAt B0 82 (.iconst 1) 1 83 := ⟨at_82, rfl⟩
theorem d0_83 : DAt B0 83 (.goto 4) 3 86 := ⟨at_83, rfl⟩
theorem d0_86 : DAt B0 86 (.iconst 0) 1 87 := ⟨at_86, rfl⟩
theorem d0_87 : DAt B0 87 (.istore 13) 2 89 := ⟨at_87, rfl⟩
theorem d0_89 : DAt B0 89 (.iload 13) 2 91 := ⟨at_89, rfl⟩
theorem d0_91 : DAt B0 91 (.ifCond .eq 7) 3 94 := ⟨at_91, rfl⟩
theorem d0_94 : DAt B0 94 (.iconst 0) 1 95 := ⟨at_94, rfl⟩
theorem d0_95 : DAt B0 95 (.goto 4) 3 98 := ⟨at_95, rfl⟩
theorem d0_98 : DAt B0 98 (.iconst (-1)) 1 99 := ⟨at_98, rfl⟩
theorem d0_99 : DAt B0 99 (.istore 14) 2 101 := ⟨at_99, rfl⟩
theorem d0_101 : DAt B0 101 (.iload 7) 2 103 := ⟨at_101, rfl⟩
theorem d0_103 : DAt B0 103 (.ifCond .ne 38) 3 106 := ⟨at_103, rfl⟩
theorem d0_106 : DAt B0 106 (.iload 8) 2 108 := ⟨at_106, rfl⟩
theorem d0_108 : DAt B0 108 (.ifCond .ne 33) 3 111 := ⟨at_108, rfl⟩
theorem d0_111 : DAt B0 111 (.iload 9) 2 113 := ⟨at_111, rfl⟩
theorem d0_113 : DAt B0 113 (.iconst (-1)) 1 114 := ⟨at_113, rfl⟩
theorem d0_114 : DAt B0 114 (.if_icmp .ne 27) 3 117 := ⟨at_114, rfl⟩
theorem d0_117 : DAt B0 117 (.iload 10) 2 119 := ⟨at_117, rfl⟩
theorem d0_119 : DAt B0 119 (.iconst (-1)) 1 120 := ⟨at_119, rfl⟩
theorem d0_120 : DAt B0 120 (.if_icmp .ne 21) 3 123 := ⟨at_120, rfl⟩
theorem d0_123 : DAt B0 123 (.iload 11) 2 125 := ⟨at_123, rfl⟩
theorem d0_125 : DAt B0 125 (.iload 13) 2 127 := ⟨at_125, rfl⟩
theorem d0_127 : DAt B0 127 (.if_icmp .ne 14) 3 130 := ⟨at_127, rfl⟩
theorem d0_130 : DAt B0 130 (.iload 12) 2 132 := ⟨at_130, rfl⟩
theorem d0_132 : DAt B0 132 (.iload 14) 2 134 := ⟨at_132, rfl⟩
theorem d0_134 : DAt B0 134 (.if_icmp .ne 7) 3 137 := ⟨at_134, rfl⟩
theorem d0_137 : DAt B0 137 (.iconst 1) 1 138 := ⟨at_137, rfl⟩
theorem d0_138 : DAt B0 138 (.goto 4) 3 141 := ⟨at_138, rfl⟩
theorem d0_141 : DAt B0 141 (.iconst 0) 1 142 := ⟨at_141, rfl⟩
theorem d0_142 : DAt B0 142 (.ireturn) 1 143 := ⟨at_142, rfl⟩
theorem ar1 : arity B1 2 := ⟨[.int, .int], none, by decide +kernel, rfl⟩
theorem ar2 : arity B2 3 := ⟨[.int, .int, .int], some .int, by decide +kernel, rfl⟩
theorem ar3 : arity B3 0 := ⟨[], some .int, by decide +kernel, rfl⟩
theorem ar4 : arity B4 2 := ⟨[.int, .int], some .int, by decide +kernel, rfl⟩
theorem ar5 : arity B5 1 := ⟨[.int], some .int, by decide +kernel, rfl⟩
theorem ar6 : arity B6 1 := ⟨[.int], some .boolean, by decide +kernel, rfl⟩
theorem ar7 : arity B7 1 := ⟨[.int], some .int, by decide +kernel, rfl⟩
theorem ar8 : arity B8 1 := ⟨[.int], some .boolean, by decide +kernel, rfl⟩
theorem ar9 : arity B9 2 := ⟨[.int, .int], some .boolean, by decide +kernel, rfl⟩
theorem cw1 : code_w B1 := ⟨mem1 5 rfl, mem1 2 rfl, by decide⟩
theorem cw2 : code_w B2 := ⟨mem1 118 rfl, mem1 2 rfl, by decide⟩
theorem cw3 : code_w B3 := ⟨mem1 127 rfl, mem1 2 rfl, by decide⟩
theorem cw4 : code_w B4 := ⟨mem1 134 rfl, mem1 2 rfl, by decide⟩
theorem cw5 : code_w B5 := ⟨mem1 141 rfl, mem1 2 rfl, by decide⟩
theorem cw6 : code_w B6 := ⟨mem1 145 rfl, mem1 2 rfl, by decide⟩
theorem cw7 : code_w B7 := ⟨mem1 150 rfl, mem1 2 rfl, by decide⟩
theorem cw8 : code_w B8 := ⟨mem1 154 rfl, mem1 2 rfl, by decide⟩
theorem cw9 : code_w B9 := ⟨mem1 161 rfl, mem1 2 rfl, by decide⟩
theorem rk0_3_0 : room_ok B0 B3 0 := by decide
theorem rk0_4_0 : room_ok B0 B4 0 := by decide
theorem rk0_5_0 : room_ok B0 B5 0 := by decide
theorem rk0_7_0 : room_ok B0 B7 0 := by decide
theorem rk0_9_0 : room_ok B0 B9 0 := by decide
theorem rk1_2_1 : room_ok B1 B2 1 := by decide
theorem rk5_6_0 : room_ok B5 B6 0 := by decide
theorem rk7_8_0 : room_ok B7 B8 0 := by decide
def X_clamp (ob : Rec) (i1 : Int32) (i2 : Int32) (i3 : Int32) : Option (Int32) :=
  if i1 < i2 then
    some i2
  else
    if i3 < i1 then
      some i3
    else
      some i1
set_option maxRecDepth 65536 in
set_option maxHeartbeats 4000000 in
theorem X_clamp_p {C : Ctx} {top : Nat} {a : Nat} {H : List (Nat × Nat × Rec)} {ob : Rec} {res : Int32} (i1 : Int32) (i2 : Int32) (i3 : Int32) (hf : X_clamp ob i1 i2 i3 = some res) : Runs C B2 0 0 0 [vr a, vi i1, vi i2, vi i3] [] (top, (a, 45, ob) :: H) (Ans (some (.int res)) (top, (a, 45, ob) :: H)) := by
  delta X_clamp at hf
  refine Runs.iloadN d2_0 rfl <| Runs.iloadN d2_1 rfl <| ?_
  refine ite_el hf (fun hc1 hf => ?_) (fun hc1 hf => ?_)
  · refine Runs.icN d2_2 (tlt hc1).2.1 <| ?_
    obtain rfl := Option.some.inj hf
    exact Runs.iloadN d2_5 rfl <| Runs.retI d2_6 rfl ⟨by decide, by decide⟩ ⟨rfl, rfl⟩
  · refine Runs.icY (pc' := 7) d2_2 (flt hc1).2.1 (by decide) <| ?_
    refine Runs.iloadN d2_7 rfl <| Runs.iloadN d2_8 rfl <| ?_
    refine ite_el hf (fun hc2 hf => ?_) (fun hc2 hf => ?_)
    · refine Runs.icN d2_9 (tlt hc2).2.2.2 <| ?_
      obtain rfl := Option.some.inj hf
      exact Runs.iloadN d2_12 rfl <| Runs.retI d2_13 rfl ⟨by decide, by decide⟩ ⟨rfl, rfl⟩
    · refine Runs.icY (pc' := 14) d2_9 (flt hc2).2.2.2 (by decide) <| ?_
      obtain rfl := Option.some.inj hf
      exact Runs.iloadN d2_14 rfl <| Runs.retI d2_15 rfl ⟨by decide, by decide⟩ ⟨rfl, rfl⟩
theorem X_clamp_pay {C : Ctx} {top : Nat} {a : Nat} {H : List (Nat × Nat × Rec)} {ob : Rec} {res : Int32} {i1 : Int32} {i2 : Int32} {i3 : Int32} (hf : X_clamp ob i1 i2 i3 = some res) : Pays C B2 [.ref a, .int i1, .int i2, .int i3] (top, (a, 45, ob) :: H) (Ans (some (.int res)) (top, (a, 45, ob) :: H)) :=
  Pays.of pnK (Nat.le_of_ble_eq_true rfl) (P := [vr a, vi i1, vi i2, vi i3]) 0 rfl (X_clamp_p i1 i2 i3 hf)
def X_init (i1 : Int32) (i2 : Int32) : Option (Rec) :=
  (X_clamp (sI (sI (sI (sI (sI (sI (sI zrec 0 (0 : Int32)) 1 (1 : Int32)) 2 (2 : Int32)) 3 (3 : Int32)) 4 (4 : Int32)) 5 (0 : Int32)) 6 (1 : Int32)) i1 (1 : Int32) (8 : Int32)).bind fun r1 =>
  (X_clamp (sI (sI (sI (sI (sI (sI (sI (sI zrec 0 (0 : Int32)) 1 (1 : Int32)) 2 (2 : Int32)) 3 (3 : Int32)) 4 (4 : Int32)) 5 (0 : Int32)) 6 (1 : Int32)) 7 r1) i2 (16 : Int32) (64 : Int32)).bind fun r3 =>
  some (sI (sI (sI (sI (sI (sI (sI (sI (sI zrec 0 (0 : Int32)) 1 (1 : Int32)) 2 (2 : Int32)) 3 (3 : Int32)) 4 (4 : Int32)) 5 (0 : Int32)) 6 (1 : Int32)) 7 r1) 8 r3)
set_option maxRecDepth 65536 in
set_option maxHeartbeats 4000000 in
theorem X_init_p {C : Ctx} {a : Nat} {H : List (Nat × Nat × Rec)} {res : Rec} (i1 : Int32) (i2 : Int32) (hf : X_init i1 i2 = some res) : Runs C B1 0 0 0 [vr a, vi i1, vi i2] [] (a + 1, (a, 0, zrec) :: H) (Ans none (a + 1 + 45, (a, 45, res) :: H)) := by
  delta X_init at hf
  refine Runs.aloadN d1_0 rfl <| Runs.initO (W := 0) d1_1 w6 w7 w8 rfl (by decide) <| Runs.aloadN d1_4 rfl <| Runs.iconst d1_5 ci_0 <| Runs.putI d1_6 w9 fS_0 (Or.inr ⟨rfl, rfl⟩) <| Runs.aloadN d1_9 rfl <| Runs.iconst d1_10 ci_1 <| Runs.putI d1_11 w11 fS_1 (Or.inr ⟨rfl, rfl⟩) <| Runs.aloadN d1_14 rfl <| Runs.iconst d1_15 ci_2 <| Runs.putI d1_16 w13 fS_2 (Or.inr ⟨rfl, rfl⟩) <| Runs.aloadN d1_19 rfl <| ?_
  refine Runs.iconst d1_20 ci_3 <| Runs.putI d1_21 w15 fS_3 (Or.inr ⟨rfl, rfl⟩) <| Runs.aloadN d1_24 rfl <| Runs.iconst d1_25 ci_4 <| Runs.putI d1_26 w17 fS_4 (Or.inr ⟨rfl, rfl⟩) <| Runs.aloadN d1_29 rfl <| Runs.iconst d1_30 ci_0 <| Runs.putI d1_31 w19 fS_5 (Or.inr ⟨rfl, rfl⟩) <| Runs.aloadN d1_34 rfl <| Runs.iconst d1_35 ci_1 <| Runs.putI d1_36 w21 fS_6 (Or.inr ⟨rfl, rfl⟩) <| Runs.aloadN d1_39 rfl <| ?_
  refine Runs.iconst d1_40 ci_4 <| Runs.newArr (j' := 1) (top' := a + 1 + 1) (k' := 1) (n' := 4) d1_41 d1_43 fA_0 w24 rfl w23 (Or.inl w25) rfl (by decide) ⟨by decide, by decide⟩ ⟨fun _ => rfl, fun _ => rfl⟩ rfl rfl rfl (by decide) <| Runs.aloadN d1_46 rfl <| Runs.iconst d1_47 ci_4 <| Runs.newArr (j' := 2) (top' := a + 1 + 2) (k' := 2) (n' := 8) d1_48 d1_50 fA_1 w26 rfl w23 (Or.inl w27) rfl (by decide) ⟨by decide, by decide⟩ ⟨fun _ => rfl, fun _ => rfl⟩ rfl rfl rfl (by decide) <| Runs.aloadN d1_53 rfl <| Runs.bipush d1_54 cb_96 <| Runs.newArr (j' := 3) (top' := a + 1 + 3) (k' := 3) (n' := 104) d1_56 d1_58 fA_2 w28 rfl w23 (Or.inl w29) rfl (by decide) ⟨by decide, by decide⟩ ⟨fun _ => rfl, fun _ => rfl⟩ rfl rfl rfl (by decide) <| Runs.aloadN d1_61 rfl <| Runs.iconst d1_62 ci_4 <| Runs.newArr (j' := 4) (top' := a + 1 + 4) (k' := 4) (n' := 108) d1_63 d1_65 fA_3 w30 rfl w23 (Or.inl w31) rfl (by decide) ⟨by decide, by decide⟩ ⟨fun _ => rfl, fun _ => rfl⟩ rfl rfl rfl (by decide) <| Runs.aloadN d1_68 rfl <| ?_
  refine Runs.iconst d1_69 ci_4 <| Runs.newArr (j' := 5) (top' := a + 1 + 5) (k' := 5) (n' := 112) d1_70 d1_72 fA_4 w32 rfl w23 (Or.inl w33) rfl (by decide) ⟨by decide, by decide⟩ ⟨fun _ => rfl, fun _ => rfl⟩ rfl rfl rfl (by decide) <| Runs.aloadN d1_75 rfl <| Runs.iconst d1_76 ci_4 <| Runs.newArr (j' := 6) (top' := a + 1 + 6) (k' := 6) (n' := 116) d1_77 d1_79 fA_5 w34 rfl w23 (Or.inl w35) rfl (by decide) ⟨by decide, by decide⟩ ⟨fun _ => rfl, fun _ => rfl⟩ rfl rfl rfl (by decide) <| Runs.aloadN d1_82 rfl <| Runs.iconst d1_83 ci_4 <| Runs.newArr (j' := 7) (top' := a + 1 + 7) (k' := 7) (n' := 120) d1_84 d1_86 fA_6 w36 rfl w23 (Or.inl w37) rfl (by decide) ⟨by decide, by decide⟩ ⟨fun _ => rfl, fun _ => rfl⟩ rfl rfl rfl (by decide) <| Runs.aloadN d1_89 rfl <| Runs.bipush d1_90 cb_32 <| Runs.newArr (j' := 8) (top' := a + 1 + 8) (k' := 8) (n' := 152) d1_92 d1_94 fA_7 w38 rfl w23 (Or.inl w39) rfl (by decide) ⟨by decide, by decide⟩ ⟨fun _ => rfl, fun _ => rfl⟩ rfl rfl rfl (by decide) <| Runs.aloadN d1_97 rfl <| ?_
  refine Runs.bipush d1_98 cb_32 <| Runs.newArr (j' := 9) (top' := a + 1 + 9) (k' := 9) (n' := 184) d1_100 d1_102 fA_8 w40 rfl w23 (Or.inl w41) rfl (by decide) ⟨by decide, by decide⟩ ⟨fun _ => rfl, fun _ => rfl⟩ rfl rfl rfl (by decide) <| Runs.aloadN d1_105 rfl <| Runs.bipush d1_106 cb_32 <| Runs.newArr (j' := 10) (top' := a + 1 + 10) (k' := 10) (n' := 216) d1_108 d1_110 fA_9 w42 rfl w23 (Or.inl w43) rfl (by decide) ⟨by decide, by decide⟩ ⟨fun _ => rfl, fun _ => rfl⟩ rfl rfl rfl (by decide) <| Runs.aloadN d1_113 rfl <| Runs.bipush d1_114 cb_32 <| Runs.newArr (j' := 11) (top' := a + 1 + 11) (k' := 11) (n' := 248) d1_116 d1_118 fA_10 w44 rfl w23 (Or.inl w45) rfl (by decide) ⟨by decide, by decide⟩ ⟨fun _ => rfl, fun _ => rfl⟩ rfl rfl rfl (by decide) <| Runs.aloadN d1_121 rfl <| Runs.bipush d1_122 cb_32 <| Runs.newArr (j' := 12) (top' := a + 1 + 12) (k' := 12) (n' := 280) d1_124 d1_126 fA_11 w46 rfl w23 (Or.inl w47) rfl (by decide) ⟨by decide, by decide⟩ ⟨fun _ => rfl, fun _ => rfl⟩ rfl rfl rfl (by decide) <| Runs.aloadN d1_129 rfl <| ?_
  refine Runs.bipush d1_130 cb_32 <| Runs.newArr (j' := 13) (top' := a + 1 + 13) (k' := 13) (n' := 312) d1_132 d1_134 fA_12 w48 rfl w23 (Or.inl w49) rfl (by decide) ⟨by decide, by decide⟩ ⟨fun _ => rfl, fun _ => rfl⟩ rfl rfl rfl (by decide) <| Runs.aloadN d1_137 rfl <| Runs.bipush d1_138 cb_32 <| Runs.newArr (j' := 14) (top' := a + 1 + 14) (k' := 14) (n' := 344) d1_140 d1_142 fA_13 w50 rfl w23 (Or.inl w51) rfl (by decide) ⟨by decide, by decide⟩ ⟨fun _ => rfl, fun _ => rfl⟩ rfl rfl rfl (by decide) <| Runs.aloadN d1_145 rfl <| Runs.bipush d1_146 cb_32 <| Runs.newArr (j' := 15) (top' := a + 1 + 15) (k' := 15) (n' := 376) d1_148 d1_150 fA_14 w52 rfl w23 (Or.inl w53) rfl (by decide) ⟨by decide, by decide⟩ ⟨fun _ => rfl, fun _ => rfl⟩ rfl rfl rfl (by decide) <| Runs.aloadN d1_153 rfl <| Runs.bipush d1_154 cb_64 <| Runs.newArr (j' := 16) (top' := a + 1 + 16) (k' := 16) (n' := 440) d1_156 d1_158 fA_15 w54 rfl w23 (Or.inl w55) rfl (by decide) ⟨by decide, by decide⟩ ⟨fun _ => rfl, fun _ => rfl⟩ rfl rfl rfl (by decide) <| Runs.aloadN d1_161 rfl <| ?_
  refine Runs.bipush d1_162 cb_64 <| Runs.newArr (j' := 17) (top' := a + 1 + 17) (k' := 17) (n' := 504) d1_164 d1_166 fA_16 w56 rfl w23 (Or.inl w57) rfl (by decide) ⟨by decide, by decide⟩ ⟨fun _ => rfl, fun _ => rfl⟩ rfl rfl rfl (by decide) <| Runs.aloadN d1_169 rfl <| Runs.bipush d1_170 cb_64 <| Runs.newArr (j' := 18) (top' := a + 1 + 18) (k' := 18) (n' := 568) d1_172 d1_174 fA_17 w58 rfl w23 (Or.inl w59) rfl (by decide) ⟨by decide, by decide⟩ ⟨fun _ => rfl, fun _ => rfl⟩ rfl rfl rfl (by decide) <| Runs.aloadN d1_177 rfl <| Runs.bipush d1_178 cb_64 <| Runs.newArr (j' := 19) (top' := a + 1 + 19) (k' := 19) (n' := 632) d1_180 d1_182 fA_18 w60 rfl w23 (Or.inl w61) rfl (by decide) ⟨by decide, by decide⟩ ⟨fun _ => rfl, fun _ => rfl⟩ rfl rfl rfl (by decide) <| Runs.aloadN d1_185 rfl <| Runs.bipush d1_186 cb_8 <| Runs.newArr (j' := 20) (top' := a + 1 + 20) (k' := 20) (n' := 640) d1_188 d1_190 fA_19 w62 rfl w23 (Or.inl w63) rfl (by decide) ⟨by decide, by decide⟩ ⟨fun _ => rfl, fun _ => rfl⟩ rfl rfl rfl (by decide) <| Runs.aloadN d1_193 rfl <| ?_
  refine Runs.bipush d1_194 cb_32 <| Runs.newArr (j' := 21) (top' := a + 1 + 21) (k' := 21) (n' := 672) d1_196 d1_198 fA_20 w64 rfl w23 (Or.inl w65) rfl (by decide) ⟨by decide, by decide⟩ ⟨fun _ => rfl, fun _ => rfl⟩ rfl rfl rfl (by decide) <| Runs.aloadN d1_201 rfl <| Runs.bipush d1_202 cb_32 <| Runs.newArr (j' := 22) (top' := a + 1 + 22) (k' := 22) (n' := 704) d1_204 d1_206 fA_21 w67 rfl w66 (Or.inl w68) rfl (by decide) ⟨by decide, by decide⟩ ⟨fun _ => rfl, fun _ => rfl⟩ rfl rfl rfl (by decide) <| Runs.aloadN d1_209 rfl <| Runs.sipush d1_210 cs_16384 <| Runs.newArr (j' := 23) (top' := a + 1 + 23) (k' := 23) (n' := 17088) d1_213 d1_215 fA_22 w69 rfl w23 (Or.inl w70) rfl (by decide) ⟨by decide, by decide⟩ ⟨fun _ => rfl, fun _ => rfl⟩ rfl rfl rfl (by decide) <| Runs.aloadN d1_218 rfl <| Runs.bipush d1_219 cb_32 <| Runs.newArr (j' := 24) (top' := a + 1 + 24) (k' := 24) (n' := 17120) d1_221 d1_223 fA_23 w71 rfl w23 (Or.inl w72) rfl (by decide) ⟨by decide, by decide⟩ ⟨fun _ => rfl, fun _ => rfl⟩ rfl rfl rfl (by decide) <| Runs.aloadN d1_226 rfl <| ?_
  refine Runs.bipush d1_227 cb_16 <| Runs.newArr (j' := 25) (top' := a + 1 + 25) (k' := 25) (n' := 17136) d1_229 d1_231 fA_24 w73 rfl w23 (Or.inl w74) rfl (by decide) ⟨by decide, by decide⟩ ⟨fun _ => rfl, fun _ => rfl⟩ rfl rfl rfl (by decide) <| Runs.aloadN d1_234 rfl <| Runs.sipush d1_235 cs_512 <| Runs.newArr (j' := 26) (top' := a + 1 + 26) (k' := 26) (n' := 17648) d1_238 d1_240 fA_25 w75 rfl w23 (Or.inl w76) rfl (by decide) ⟨by decide, by decide⟩ ⟨fun _ => rfl, fun _ => rfl⟩ rfl rfl rfl (by decide) <| Runs.aloadN d1_243 rfl <| Runs.bipush d1_244 cb_16 <| Runs.newArr (j' := 27) (top' := a + 1 + 27) (k' := 27) (n' := 17664) d1_246 d1_248 fA_26 w77 rfl w23 (Or.inl w78) rfl (by decide) ⟨by decide, by decide⟩ ⟨fun _ => rfl, fun _ => rfl⟩ rfl rfl rfl (by decide) <| Runs.aloadN d1_251 rfl <| Runs.bipush d1_252 cb_16 <| Runs.newArr (j' := 28) (top' := a + 1 + 28) (k' := 28) (n' := 17680) d1_254 d1_256 fA_27 w79 rfl w23 (Or.inl w80) rfl (by decide) ⟨by decide, by decide⟩ ⟨fun _ => rfl, fun _ => rfl⟩ rfl rfl rfl (by decide) <| Runs.aloadN d1_259 rfl <| ?_
  refine Runs.bipush d1_260 cb_16 <| Runs.newArr (j' := 29) (top' := a + 1 + 29) (k' := 29) (n' := 17696) d1_262 d1_264 fA_28 w81 rfl w23 (Or.inl w82) rfl (by decide) ⟨by decide, by decide⟩ ⟨fun _ => rfl, fun _ => rfl⟩ rfl rfl rfl (by decide) <| Runs.aloadN d1_267 rfl <| Runs.bipush d1_268 cb_16 <| Runs.newArr (j' := 30) (top' := a + 1 + 30) (k' := 30) (n' := 17712) d1_270 d1_272 fA_29 w83 rfl w23 (Or.inl w84) rfl (by decide) ⟨by decide, by decide⟩ ⟨fun _ => rfl, fun _ => rfl⟩ rfl rfl rfl (by decide) <| Runs.aloadN d1_275 rfl <| Runs.bipush d1_276 cb_16 <| Runs.newArr (j' := 31) (top' := a + 1 + 31) (k' := 31) (n' := 17728) d1_278 d1_280 fA_30 w85 rfl w23 (Or.inl w86) rfl (by decide) ⟨by decide, by decide⟩ ⟨fun _ => rfl, fun _ => rfl⟩ rfl rfl rfl (by decide) <| Runs.aloadN d1_283 rfl <| Runs.bipush d1_284 cb_16 <| Runs.newArr (j' := 32) (top' := a + 1 + 32) (k' := 32) (n' := 17744) d1_286 d1_288 fA_31 w87 rfl w23 (Or.inl w88) rfl (by decide) ⟨by decide, by decide⟩ ⟨fun _ => rfl, fun _ => rfl⟩ rfl rfl rfl (by decide) <| Runs.aloadN d1_291 rfl <| ?_
  refine Runs.sipush d1_292 cs_128 <| Runs.newArr (j' := 33) (top' := a + 1 + 33) (k' := 33) (n' := 17872) d1_295 d1_297 fA_32 w89 rfl w23 (Or.inl w90) rfl (by decide) ⟨by decide, by decide⟩ ⟨fun _ => rfl, fun _ => rfl⟩ rfl rfl rfl (by decide) <| Runs.aloadN d1_300 rfl <| Runs.bipush d1_301 cb_16 <| Runs.newArr (j' := 34) (top' := a + 1 + 34) (k' := 34) (n' := 17888) d1_303 d1_305 fA_33 w91 rfl w23 (Or.inl w92) rfl (by decide) ⟨by decide, by decide⟩ ⟨fun _ => rfl, fun _ => rfl⟩ rfl rfl rfl (by decide) <| Runs.aloadN d1_308 rfl <| Runs.bipush d1_309 cb_16 <| Runs.newArr (j' := 35) (top' := a + 1 + 35) (k' := 35) (n' := 17904) d1_311 d1_313 fA_34 w93 rfl w66 (Or.inl w94) rfl (by decide) ⟨by decide, by decide⟩ ⟨fun _ => rfl, fun _ => rfl⟩ rfl rfl rfl (by decide) <| Runs.aloadN d1_316 rfl <| Runs.bipush d1_317 cb_32 <| Runs.newArr (j' := 36) (top' := a + 1 + 36) (k' := 36) (n' := 17936) d1_319 d1_321 fA_35 w95 rfl w23 (Or.inl w96) rfl (by decide) ⟨by decide, by decide⟩ ⟨fun _ => rfl, fun _ => rfl⟩ rfl rfl rfl (by decide) <| Runs.aloadN d1_324 rfl <| ?_
  refine Runs.sipush d1_325 cs_512 <| Runs.newArr (j' := 37) (top' := a + 1 + 37) (k' := 37) (n' := 18448) d1_328 d1_330 fA_36 w97 rfl w23 (Or.inl w98) rfl (by decide) ⟨by decide, by decide⟩ ⟨fun _ => rfl, fun _ => rfl⟩ rfl rfl rfl (by decide) <| Runs.aloadN d1_333 rfl <| Runs.sipush d1_334 cs_512 <| Runs.newArr (j' := 38) (top' := a + 1 + 38) (k' := 38) (n' := 18960) d1_337 d1_339 fA_37 w99 rfl w23 (Or.inl w100) rfl (by decide) ⟨by decide, by decide⟩ ⟨fun _ => rfl, fun _ => rfl⟩ rfl rfl rfl (by decide) <| Runs.aloadN d1_342 rfl <| Runs.sipush d1_343 cs_512 <| Runs.newArr (j' := 39) (top' := a + 1 + 39) (k' := 39) (n' := 19472) d1_346 d1_348 fA_38 w101 rfl w23 (Or.inl w102) rfl (by decide) ⟨by decide, by decide⟩ ⟨fun _ => rfl, fun _ => rfl⟩ rfl rfl rfl (by decide) <| Runs.aloadN d1_351 rfl <| Runs.sipush d1_352 cs_512 <| Runs.newArr (j' := 40) (top' := a + 1 + 40) (k' := 40) (n' := 19984) d1_355 d1_357 fA_39 w103 rfl w23 (Or.inl w104) rfl (by decide) ⟨by decide, by decide⟩ ⟨fun _ => rfl, fun _ => rfl⟩ rfl rfl rfl (by decide) <| Runs.aloadN d1_360 rfl <| ?_
  refine Runs.sipush d1_361 cs_512 <| Runs.newArr (j' := 41) (top' := a + 1 + 41) (k' := 41) (n' := 20496) d1_364 d1_366 fA_40 w105 rfl w23 (Or.inl w106) rfl (by decide) ⟨by decide, by decide⟩ ⟨fun _ => rfl, fun _ => rfl⟩ rfl rfl rfl (by decide) <| Runs.aloadN d1_369 rfl <| Runs.bipush d1_370 cb_64 <| Runs.newArr (j' := 42) (top' := a + 1 + 42) (k' := 42) (n' := 20560) d1_372 d1_374 fA_41 w107 rfl w23 (Or.inl w108) rfl (by decide) ⟨by decide, by decide⟩ ⟨fun _ => rfl, fun _ => rfl⟩ rfl rfl rfl (by decide) <| Runs.aloadN d1_377 rfl <| Runs.bipush d1_378 cb_64 <| Runs.newArr (j' := 43) (top' := a + 1 + 43) (k' := 43) (n' := 20624) d1_380 d1_382 fA_42 w109 rfl w23 (Or.inl w110) rfl (by decide) ⟨by decide, by decide⟩ ⟨fun _ => rfl, fun _ => rfl⟩ rfl rfl rfl (by decide) <| Runs.aloadN d1_385 rfl <| Runs.bipush d1_386 cb_64 <| Runs.newArr (j' := 44) (top' := a + 1 + 44) (k' := 44) (n' := 20688) d1_388 d1_390 fA_43 w111 rfl w23 (Or.inl w112) rfl (by decide) ⟨by decide, by decide⟩ ⟨fun _ => rfl, fun _ => rfl⟩ rfl rfl rfl (by decide) <| Runs.aloadN d1_393 rfl <| ?_
  refine Runs.bipush d1_394 cb_8 <| Runs.newArr (j' := 45) (top' := a + 1 + 45) (k' := 45) (n' := 20696) d1_396 d1_398 fA_44 w113 rfl w23 (Or.inl w114) rfl (by decide) ⟨by decide, by decide⟩ ⟨fun _ => rfl, fun _ => rfl⟩ rfl rfl rfl (by decide) <| Runs.aloadN d1_401 rfl <| Runs.aloadN d1_402 rfl <| Runs.iloadN d1_403 rfl <| Runs.iconst d1_404 ci_1 <| Runs.bipush d1_405 cb_8 <| ?_
  refine bind_el hf fun r1 hg2 hf => ?_
  refine Runs.callP (N := B2) (W := 1) (as := [.int i1, .int (1 : Int32), .int (8 : Int32)]) (S' := [.ref a]) d1_407 w115 w116 w117 rfl cw2 ar2 rk1_2_1 (by decide) rfl rfl (X_clamp_pay hg2) <| ans1 <| Runs.putI d1_410 w119 fS_7 (Or.inl w120) <| Runs.aloadN d1_413 rfl <| Runs.aloadN d1_414 rfl <| Runs.iloadN d1_415 rfl <| Runs.bipush d1_416 cb_16 <| Runs.bipush d1_418 cb_64 <| ?_
  refine bind_el hf fun r3 hg4 hf => ?_
  obtain rfl := Option.some.inj hf
  exact Runs.callP (N := B2) (W := 1) (as := [.int i2, .int (16 : Int32), .int (64 : Int32)]) (S' := [.ref a]) d1_420 w115 w116 w117 rfl cw2 ar2 rk1_2_1 (by decide) rfl rfl (X_clamp_pay hg4) <| ans1 <| Runs.putI d1_423 w121 fS_8 (Or.inl w122) <| Runs.retV d1_426 rfl ⟨by decide, by decide⟩ ⟨rfl, rfl⟩
theorem X_init_pay {C : Ctx} {a : Nat} {H : List (Nat × Nat × Rec)} {res : Rec} {i1 : Int32} {i2 : Int32} (hf : X_init i1 i2 = some res) : Pays C B1 [.ref a, .int i1, .int i2] (a + 1, (a, 0, zrec) :: H) (Ans none (a + 1 + 45, (a, 45, res) :: H)) :=
  Pays.of pnK (Nat.le_of_ble_eq_true rfl) (P := [vr a, vi i1, vi i2]) 0 rfl (X_init_p i1 i2 hf)
def X_resultWidth (ob : Rec) : Option (Int32) :=
  some (gI ob 10)
set_option maxRecDepth 65536 in
set_option maxHeartbeats 4000000 in
theorem X_resultWidth_p {C : Ctx} {top : Nat} {a : Nat} {H : List (Nat × Nat × Rec)} {ob : Rec} {res : Int32} (hf : X_resultWidth ob = some res) : Runs C B3 0 0 0 [vr a] [] (top, (a, 45, ob) :: H) (Ans (some (.int res)) (top, (a, 45, ob) :: H)) := by
  delta X_resultWidth at hf
  obtain rfl := Option.some.inj hf
  exact Runs.aloadN d3_0 rfl <| Runs.getI d3_1 w128 fS_10 <| Runs.retI d3_4 rfl ⟨by decide, by decide⟩ ⟨rfl, rfl⟩
theorem X_resultWidth_pay {C : Ctx} {top : Nat} {a : Nat} {H : List (Nat × Nat × Rec)} {ob : Rec} {res : Int32} (hf : X_resultWidth ob = some res) : Pays C B3 [.ref a] (top, (a, 45, ob) :: H) (Ans (some (.int res)) (top, (a, 45, ob) :: H)) :=
  Pays.of pnK (Nat.le_of_ble_eq_true rfl) (P := [vr a]) 0 rfl (X_resultWidth_p hf)
def X_resultCell (ob : Rec) (i1 : Int32) (i2 : Int32) : Option (Int32) :=
  if i1 < (0 : Int32) then
    some (0 : Int32)
  else
    if i1 < (gI ob 11) then
      if i2 < (0 : Int32) then
        some (0 : Int32)
      else
        if i2 < (gI ob 10) then
          chk (512 : Int32) ((i1 * (8 : Int32)) + i2) <|
          some (gA ob 25 ((i1 * (8 : Int32)) + i2))
        else
          some (0 : Int32)
    else
      some (0 : Int32)
set_option maxRecDepth 65536 in
set_option maxHeartbeats 4000000 in
theorem X_resultCell_p {C : Ctx} {top : Nat} {a : Nat} {H : List (Nat × Nat × Rec)} {ob : Rec} {res : Int32} (i1 : Int32) (i2 : Int32) (hf : X_resultCell ob i1 i2 = some res) : Runs C B4 0 0 0 [vr a, vi i1, vi i2] [] (top, (a, 45, ob) :: H) (Ans (some (.int res)) (top, (a, 45, ob) :: H)) := by
  delta X_resultCell at hf
  refine Runs.iloadN d4_0 rfl <| ?_
  refine ite_el hf (fun hc1 hf => ?_) (fun hc1 hf => ?_)
  · refine Runs.ifY (pc' := 24) d4_1 (tlt hc1).1 (by decide) <| ?_
    obtain rfl := Option.some.inj hf
    exact Runs.iconst d4_24 ci_0 <| Runs.retI d4_25 rfl ⟨by decide, by decide⟩ ⟨rfl, rfl⟩
  · refine Runs.ifN d4_1 (flt hc1).1 <| ?_
    refine Runs.iloadN d4_4 rfl <| Runs.aloadN d4_5 rfl <| Runs.getI d4_6 w135 fS_11 <| ?_
    refine ite_el hf (fun hc2 hf => ?_) (fun hc2 hf => ?_)
    · refine Runs.icN d4_9 (tlt hc2).2.1 <| ?_
      refine Runs.iloadN d4_12 rfl <| ?_
      refine ite_el hf (fun hc3 hf => ?_) (fun hc3 hf => ?_)
      · refine Runs.ifY (pc' := 24) d4_13 (tlt hc3).1 (by decide) <| ?_
        obtain rfl := Option.some.inj hf
        exact Runs.iconst d4_24 ci_0 <| Runs.retI d4_25 rfl ⟨by decide, by decide⟩ ⟨rfl, rfl⟩
      · refine Runs.ifN d4_13 (flt hc3).1 <| ?_
        refine Runs.iloadN d4_16 rfl <| Runs.aloadN d4_17 rfl <| Runs.getI d4_18 w128 fS_10 <| ?_
        refine ite_el hf (fun hc4 hf => ?_) (fun hc4 hf => ?_)
        · refine Runs.icY (pc' := 26) d4_21 (tlt hc4).1 (by decide) <| ?_
          refine Runs.aloadN d4_26 rfl <| Runs.getA d4_27 fA_25 w75 (by decide) <| Runs.iloadN d4_30 rfl <| Runs.bipush d4_31 cb_8 <| Runs.imul d4_33 <| Runs.iloadN d4_34 rfl <| Runs.iadd d4_35 <| ?_
          refine chk_el hf fun hi5 hf => ?_
          obtain rfl := Option.some.inj hf
          exact Runs.ialoadA d4_36 fA_25 (by decide) hi5 <| Runs.retI d4_37 rfl ⟨by decide, by decide⟩ ⟨rfl, rfl⟩
        · refine Runs.icN d4_21 (flt hc4).1 <| ?_
          obtain rfl := Option.some.inj hf
          exact Runs.iconst d4_24 ci_0 <| Runs.retI d4_25 rfl ⟨by decide, by decide⟩ ⟨rfl, rfl⟩
    · refine Runs.icY (pc' := 24) d4_9 (flt hc2).2.1 (by decide) <| ?_
      obtain rfl := Option.some.inj hf
      exact Runs.iconst d4_24 ci_0 <| Runs.retI d4_25 rfl ⟨by decide, by decide⟩ ⟨rfl, rfl⟩
theorem X_resultCell_pay {C : Ctx} {top : Nat} {a : Nat} {H : List (Nat × Nat × Rec)} {ob : Rec} {res : Int32} {i1 : Int32} {i2 : Int32} (hf : X_resultCell ob i1 i2 = some res) : Pays C B4 [.ref a, .int i1, .int i2] (top, (a, 45, ob) :: H) (Ans (some (.int res)) (top, (a, 45, ob) :: H)) :=
  Pays.of pnK (Nat.le_of_ble_eq_true rfl) (P := [vr a, vi i1, vi i2]) 0 rfl (X_resultCell_p i1 i2 hf)
def X_tableExists (ob : Rec) (i1 : Int32) : Option (Int32) :=
  if i1 < (0 : Int32) then
    some (0 : Int32)
  else
    if i1 < (4 : Int32) then
      chk (4 : Int32) i1 <|
      if (gA ob 0 i1) = (0 : Int32) then
        some (0 : Int32)
      else
        some (1 : Int32)
    else
      some (0 : Int32)
set_option maxRecDepth 65536 in
set_option maxHeartbeats 4000000 in
theorem X_tableExists_p {C : Ctx} {top : Nat} {a : Nat} {H : List (Nat × Nat × Rec)} {ob : Rec} {res : Int32} (i1 : Int32) (hf : X_tableExists ob i1 = some res) : Runs C B6 0 0 0 [vr a, vi i1] [] (top, (a, 45, ob) :: H) (Ans (some (.int res)) (top, (a, 45, ob) :: H)) := by
  delta X_tableExists at hf
  refine Runs.iloadN d6_0 rfl <| ?_
  refine ite_el hf (fun hc1 hf => ?_) (fun hc1 hf => ?_)
  · refine Runs.ifY (pc' := 22) d6_1 (tlt hc1).1 (by decide) <| ?_
    obtain rfl := Option.some.inj hf
    exact Runs.iconst d6_22 ci_0 <| Runs.retZ (y := (0 : Int32)) d6_23 rfl ⟨by decide, by decide⟩ rfl ⟨rfl, rfl⟩
  · refine Runs.ifN d6_1 (flt hc1).1 <| ?_
    refine Runs.iloadN d6_4 rfl <| Runs.iconst d6_5 ci_4 <| ?_
    refine ite_el hf (fun hc2 hf => ?_) (fun hc2 hf => ?_)
    · refine Runs.icN d6_6 (tlt hc2).2.1 <| ?_
      refine Runs.aloadN d6_9 rfl <| Runs.getA d6_10 fA_0 w24 (by decide) <| Runs.iloadN d6_13 rfl <| ?_
      refine chk_el hf fun hi3 hf => ?_
      refine Runs.ialoadA d6_14 fA_0 (by decide) hi3 <| ?_
      refine ite_el hf (fun hc4 hf => ?_) (fun hc4 hf => ?_)
      · refine Runs.ifY (pc' := 22) d6_15 (teq hc4).1 (by decide) <| ?_
        obtain rfl := Option.some.inj hf
        exact Runs.iconst d6_22 ci_0 <| Runs.retZ (y := (0 : Int32)) d6_23 rfl ⟨by decide, by decide⟩ rfl ⟨rfl, rfl⟩
      · refine Runs.ifN d6_15 (feq hc4).1 <| ?_
        obtain rfl := Option.some.inj hf
        exact Runs.iconst d6_18 ci_1 <| Runs.goto (pc' := 23) d6_19 (by decide) <| Runs.retZ (y := (1 : Int32)) d6_23 rfl ⟨by decide, by decide⟩ rfl ⟨rfl, rfl⟩
    · refine Runs.icY (pc' := 22) d6_6 (flt hc2).2.1 (by decide) <| ?_
      obtain rfl := Option.some.inj hf
      exact Runs.iconst d6_22 ci_0 <| Runs.retZ (y := (0 : Int32)) d6_23 rfl ⟨by decide, by decide⟩ rfl ⟨rfl, rfl⟩
theorem X_tableExists_pay {C : Ctx} {top : Nat} {a : Nat} {H : List (Nat × Nat × Rec)} {ob : Rec} {res : Int32} {i1 : Int32} (hf : X_tableExists ob i1 = some res) : Pays C B6 [.ref a, .int i1] (top, (a, 45, ob) :: H) (Ans (some (.int res)) (top, (a, 45, ob) :: H)) :=
  Pays.of pnK (Nat.le_of_ble_eq_true rfl) (P := [vr a, vi i1]) 0 rfl (X_tableExists_p i1 hf)
def X_tableRows (ob : Rec) (i1 : Int32) : Option (Int32) :=
  (X_tableExists ob i1).bind fun r1 =>
  if r1 = (0 : Int32) then
    some (-1 : Int32)
  else
    chk (4 : Int32) i1 <|
    some (gA ob 1 i1)
set_option maxRecDepth 65536 in
set_option maxHeartbeats 4000000 in
theorem X_tableRows_p {C : Ctx} {top : Nat} {a : Nat} {H : List (Nat × Nat × Rec)} {ob : Rec} {res : Int32} (i1 : Int32) (hf : X_tableRows ob i1 = some res) : Runs C B5 0 0 0 [vr a, vi i1] [] (top, (a, 45, ob) :: H) (Ans (some (.int res)) (top, (a, 45, ob) :: H)) := by
  delta X_tableRows at hf
  refine Runs.aloadN d5_0 rfl <| Runs.iloadN d5_1 rfl <| ?_
  refine bind_el hf fun r1 hg2 hf => ?_
  refine Runs.callP (N := B6) (W := 0) (as := [.int i1]) (S' := []) d5_2 w142 w143 w144 rfl cw6 ar6 rk5_6_0 (by decide) rfl rfl (X_tableExists_pay hg2) <| ans1 <| ?_
  refine ite_el hf (fun hc3 hf => ?_) (fun hc3 hf => ?_)
  · refine Runs.ifN d5_5 (teq hc3).2 <| ?_
    obtain rfl := Option.some.inj hf
    exact Runs.iconst d5_8 ci_m1 <| Runs.retI d5_9 rfl ⟨by decide, by decide⟩ ⟨rfl, rfl⟩
  · refine Runs.ifY (pc' := 10) d5_5 (feq hc3).2 (by decide) <| ?_
    refine Runs.aloadN d5_10 rfl <| Runs.getA d5_11 fA_1 w26 (by decide) <| Runs.iloadN d5_14 rfl <| ?_
    refine chk_el hf fun hi4 hf => ?_
    obtain rfl := Option.some.inj hf
    exact Runs.ialoadA d5_15 fA_1 (by decide) hi4 <| Runs.retI d5_16 rfl ⟨by decide, by decide⟩ ⟨rfl, rfl⟩
theorem X_tableRows_pay {C : Ctx} {top : Nat} {a : Nat} {H : List (Nat × Nat × Rec)} {ob : Rec} {res : Int32} {i1 : Int32} (hf : X_tableRows ob i1 = some res) : Pays C B5 [.ref a, .int i1] (top, (a, 45, ob) :: H) (Ans (some (.int res)) (top, (a, 45, ob) :: H)) :=
  Pays.of pnK (Nat.le_of_ble_eq_true rfl) (P := [vr a, vi i1]) 0 rfl (X_tableRows_p i1 hf)
def X_nodeExists (ob : Rec) (i1 : Int32) : Option (Int32) :=
  if i1 < (0 : Int32) then
    some (0 : Int32)
  else
    if i1 < (gI ob 9) then
      some (1 : Int32)
    else
      some (0 : Int32)
set_option maxRecDepth 65536 in
set_option maxHeartbeats 4000000 in
theorem X_nodeExists_p {C : Ctx} {top : Nat} {a : Nat} {H : List (Nat × Nat × Rec)} {ob : Rec} {res : Int32} (i1 : Int32) (hf : X_nodeExists ob i1 = some res) : Runs C B8 0 0 0 [vr a, vi i1] [] (top, (a, 45, ob) :: H) (Ans (some (.int res)) (top, (a, 45, ob) :: H)) := by
  delta X_nodeExists at hf
  refine Runs.iloadN d8_0 rfl <| ?_
  refine ite_el hf (fun hc1 hf => ?_) (fun hc1 hf => ?_)
  · refine Runs.ifY (pc' := 16) d8_1 (tlt hc1).1 (by decide) <| ?_
    obtain rfl := Option.some.inj hf
    exact Runs.iconst d8_16 ci_0 <| Runs.retZ (y := (0 : Int32)) d8_17 rfl ⟨by decide, by decide⟩ rfl ⟨rfl, rfl⟩
  · refine Runs.ifN d8_1 (flt hc1).1 <| ?_
    refine Runs.iloadN d8_4 rfl <| Runs.aloadN d8_5 rfl <| Runs.getI d8_6 w155 fS_9 <| ?_
    refine ite_el hf (fun hc2 hf => ?_) (fun hc2 hf => ?_)
    · refine Runs.icN d8_9 (tlt hc2).2.1 <| ?_
      obtain rfl := Option.some.inj hf
      exact Runs.iconst d8_12 ci_1 <| Runs.goto (pc' := 17) d8_13 (by decide) <| Runs.retZ (y := (1 : Int32)) d8_17 rfl ⟨by decide, by decide⟩ rfl ⟨rfl, rfl⟩
    · refine Runs.icY (pc' := 16) d8_9 (flt hc2).2.1 (by decide) <| ?_
      obtain rfl := Option.some.inj hf
      exact Runs.iconst d8_16 ci_0 <| Runs.retZ (y := (0 : Int32)) d8_17 rfl ⟨by decide, by decide⟩ rfl ⟨rfl, rfl⟩
theorem X_nodeExists_pay {C : Ctx} {top : Nat} {a : Nat} {H : List (Nat × Nat × Rec)} {ob : Rec} {res : Int32} {i1 : Int32} (hf : X_nodeExists ob i1 = some res) : Pays C B8 [.ref a, .int i1] (top, (a, 45, ob) :: H) (Ans (some (.int res)) (top, (a, 45, ob) :: H)) :=
  Pays.of pnK (Nat.le_of_ble_eq_true rfl) (P := [vr a, vi i1]) 0 rfl (X_nodeExists_p i1 hf)
def X_nodeWidth (ob : Rec) (i1 : Int32) : Option (Int32) :=
  (X_nodeExists ob i1).bind fun r1 =>
  if r1 = (0 : Int32) then
    some (-1 : Int32)
  else
    chk (32 : Int32) i1 <|
    some (gA ob 8 i1)
set_option maxRecDepth 65536 in
set_option maxHeartbeats 4000000 in
theorem X_nodeWidth_p {C : Ctx} {top : Nat} {a : Nat} {H : List (Nat × Nat × Rec)} {ob : Rec} {res : Int32} (i1 : Int32) (hf : X_nodeWidth ob i1 = some res) : Runs C B7 0 0 0 [vr a, vi i1] [] (top, (a, 45, ob) :: H) (Ans (some (.int res)) (top, (a, 45, ob) :: H)) := by
  delta X_nodeWidth at hf
  refine Runs.aloadN d7_0 rfl <| Runs.iloadN d7_1 rfl <| ?_
  refine bind_el hf fun r1 hg2 hf => ?_
  refine Runs.callP (N := B8) (W := 0) (as := [.int i1]) (S' := []) d7_2 w151 w152 w153 rfl cw8 ar8 rk7_8_0 (by decide) rfl rfl (X_nodeExists_pay hg2) <| ans1 <| ?_
  refine ite_el hf (fun hc3 hf => ?_) (fun hc3 hf => ?_)
  · refine Runs.ifN d7_5 (teq hc3).2 <| ?_
    obtain rfl := Option.some.inj hf
    exact Runs.iconst d7_8 ci_m1 <| Runs.retI d7_9 rfl ⟨by decide, by decide⟩ ⟨rfl, rfl⟩
  · refine Runs.ifY (pc' := 10) d7_5 (feq hc3).2 (by decide) <| ?_
    refine Runs.aloadN d7_10 rfl <| Runs.getA d7_11 fA_8 w40 (by decide) <| Runs.iloadN d7_14 rfl <| ?_
    refine chk_el hf fun hi4 hf => ?_
    obtain rfl := Option.some.inj hf
    exact Runs.ialoadA d7_15 fA_8 (by decide) hi4 <| Runs.retI d7_16 rfl ⟨by decide, by decide⟩ ⟨rfl, rfl⟩
theorem X_nodeWidth_pay {C : Ctx} {top : Nat} {a : Nat} {H : List (Nat × Nat × Rec)} {ob : Rec} {res : Int32} {i1 : Int32} (hf : X_nodeWidth ob i1 = some res) : Pays C B7 [.ref a, .int i1] (top, (a, 45, ob) :: H) (Ans (some (.int res)) (top, (a, 45, ob) :: H)) :=
  Pays.of pnK (Nat.le_of_ble_eq_true rfl) (P := [vr a, vi i1]) 0 rfl (X_nodeWidth_p i1 hf)
def X_createTable (ob : Rec) (i1 : Int32) (i2 : Int32) : Option (Int32 × Rec) :=
  if i1 < (0 : Int32) then
    some ((0 : Int32), ob)
  else
    if i1 < (4 : Int32) then
      if i2 < (1 : Int32) then
        some ((0 : Int32), ob)
      else
        if (3 : Int32) < i2 then
          some ((0 : Int32), ob)
        else
          chk (4 : Int32) i1 <|
          if (gA ob 0 i1) = (0 : Int32) then
            chk (4 : Int32) i1 <|
            chk (4 : Int32) i1 <|
            some ((1 : Int32), (sA (sA ob 0 i1 i2) 1 i1 (0 : Int32)))
          else
            some ((0 : Int32), ob)
    else
      some ((0 : Int32), ob)
set_option maxRecDepth 65536 in
set_option maxHeartbeats 4000000 in
theorem X_createTable_p {C : Ctx} {top : Nat} {a : Nat} {H : List (Nat × Nat × Rec)} {res : Int32 × Rec} (ob : Rec) (i1 : Int32) (i2 : Int32) (hf : X_createTable ob i1 i2 = some res) : Runs C B9 0 0 0 [vr a, vi i1, vi i2] [] (top, (a, 45, ob) :: H) (Ans (some (.int res.1)) (top, (a, 45, res.2) :: H)) := by
  delta X_createTable at hf
  refine Runs.iloadN d9_0 rfl <| ?_
  refine ite_el hf (fun hc1 hf => ?_) (fun hc1 hf => ?_)
  · refine Runs.ifY (pc' := 19) d9_1 (tlt hc1).1 (by decide) <| ?_
    obtain rfl := Option.some.inj hf
    exact Runs.iconst d9_19 ci_0 <| Runs.retZ (y := (0 : Int32)) d9_20 rfl ⟨by decide, by decide⟩ rfl ⟨rfl, rfl⟩
  · refine Runs.ifN d9_1 (flt hc1).1 <| ?_
    refine Runs.iloadN d9_4 rfl <| Runs.iconst d9_5 ci_4 <| ?_
    refine ite_el hf (fun hc2 hf => ?_) (fun hc2 hf => ?_)
    · refine Runs.icN d9_6 (tlt hc2).2.1 <| ?_
      refine Runs.iloadN d9_9 rfl <| Runs.iconst d9_10 ci_1 <| ?_
      refine ite_el hf (fun hc3 hf => ?_) (fun hc3 hf => ?_)
      · refine Runs.icY (pc' := 19) d9_11 (tlt hc3).1 (by decide) <| ?_
        obtain rfl := Option.some.inj hf
        exact Runs.iconst d9_19 ci_0 <| Runs.retZ (y := (0 : Int32)) d9_20 rfl ⟨by decide, by decide⟩ rfl ⟨rfl, rfl⟩
      · refine Runs.icN d9_11 (flt hc3).1 <| ?_
        refine Runs.iloadN d9_14 rfl <| Runs.iconst d9_15 ci_3 <| ?_
        refine ite_el hf (fun hc4 hf => ?_) (fun hc4 hf => ?_)
        · refine Runs.icN d9_16 (tlt hc4).2.2.2 <| ?_
          obtain rfl := Option.some.inj hf
          exact Runs.iconst d9_19 ci_0 <| Runs.retZ (y := (0 : Int32)) d9_20 rfl ⟨by decide, by decide⟩ rfl ⟨rfl, rfl⟩
        · refine Runs.icY (pc' := 21) d9_16 (flt hc4).2.2.2 (by decide) <| ?_
          refine Runs.aloadN d9_21 rfl <| Runs.getA d9_22 fA_0 w24 (by decide) <| Runs.iloadN d9_25 rfl <| ?_
          refine chk_el hf fun hi5 hf => ?_
          refine Runs.ialoadA d9_26 fA_0 (by decide) hi5 <| ?_
          refine ite_el hf (fun hc6 hf => ?_) (fun hc6 hf => ?_)
          · refine Runs.ifY (pc' := 32) d9_27 (teq hc6).1 (by decide) <| ?_
            refine Runs.aloadN d9_32 rfl <| Runs.getA d9_33 fA_0 w24 (by decide) <| Runs.iloadN d9_36 rfl <| Runs.iloadN d9_37 rfl <| ?_
            refine chk_el hf fun hi7 hf => ?_
            refine Runs.iastoreA d9_38 fA_0 (by decide) hi7 <| Runs.aloadN d9_39 rfl <| Runs.getA d9_40 fA_1 w26 (by decide) <| Runs.iloadN d9_43 rfl <| Runs.iconst d9_44 ci_0 <| ?_
            refine chk_el hf fun hi8 hf => ?_
            obtain rfl := Option.some.inj hf
            exact Runs.iastoreA d9_45 fA_1 (by decide) hi8 <| Runs.iconst d9_46 ci_1 <| Runs.retZ (y := (1 : Int32)) d9_47 rfl ⟨by decide, by decide⟩ rfl ⟨rfl, rfl⟩
          · refine Runs.ifN d9_27 (feq hc6).1 <| ?_
            obtain rfl := Option.some.inj hf
            exact Runs.iconst d9_30 ci_0 <| Runs.retZ (y := (0 : Int32)) d9_31 rfl ⟨by decide, by decide⟩ rfl ⟨rfl, rfl⟩
    · refine Runs.icY (pc' := 19) d9_6 (flt hc2).2.1 (by decide) <| ?_
      obtain rfl := Option.some.inj hf
      exact Runs.iconst d9_19 ci_0 <| Runs.retZ (y := (0 : Int32)) d9_20 rfl ⟨by decide, by decide⟩ rfl ⟨rfl, rfl⟩
theorem X_createTable_pay {C : Ctx} {top : Nat} {a : Nat} {H : List (Nat × Nat × Rec)} {res : Int32 × Rec} {ob : Rec} {i1 : Int32} {i2 : Int32} (hf : X_createTable ob i1 i2 = some res) : Pays C B9 [.ref a, .int i1, .int i2] (top, (a, 45, ob) :: H) (Ans (some (.int res.1)) (top, (a, 45, res.2) :: H)) :=
  Pays.of pnK (Nat.le_of_ble_eq_true rfl) (P := [vr a, vi i1, vi i2]) 0 rfl (X_createTable_p ob i1 i2 hf)
def L_law_b99 (ob : Rec) (i7 : Int32) (i8 : Int32) (i9 : Int32) (i10 : Int32) (i11 : Int32) (i12 : Int32) (i13 : Int32) (t0 : Int32) : Option (Int32) :=
  if i7 = (0 : Int32) then
    if i8 = (0 : Int32) then
      if i9 = (-1 : Int32) then
        if i10 = (-1 : Int32) then
          if i11 = i13 then
            if i12 = t0 then
              some (1 : Int32)
            else
              some (0 : Int32)
          else
            some (0 : Int32)
        else
          some (0 : Int32)
      else
        some (0 : Int32)
    else
      some (0 : Int32)
  else
    some (0 : Int32)
set_option maxRecDepth 65536 in
set_option maxHeartbeats 4000000 in
theorem L_law_b99_p {C : Ctx} {res : Int32} (ob : Rec) (i7 : Int32) (i8 : Int32) (i9 : Int32) (i10 : Int32) (i11 : Int32) (i12 : Int32) (i13 : Int32) (t0 : Int32) (hf : L_law_b99 ob i7 i8 i9 i10 i11 i12 i13 t0 = some res) : Runs C B0 46 20760 99 [vn, vn, vn, vn, vn, vn, vn, vi i7, vi i8, vi i9, vi i10, vi i11, vi i12, vi i13, vn] [.int t0] (C.2.2.1 + 1 + 45, (C.2.2.1, 45, ob) :: []) (fun v _ => v = (some (.int res))) := by
  delta L_law_b99 at hf
  refine Runs.istore (P' := [vn, vn, vn, vn, vn, vn, vn, vi i7, vi i8, vi i9, vi i10, vi i11, vi i12, vi i13, vi t0]) d0_99 (by decide) rfl <| Runs.iload d0_101 rfl <| ?_
  refine ite_el hf (fun hc2 hf => ?_) (fun hc2 hf => ?_)
  · refine Runs.ifN d0_103 (teq hc2).2 <| ?_
    refine Runs.iload d0_106 rfl <| ?_
    refine ite_el hf (fun hc3 hf => ?_) (fun hc3 hf => ?_)
    · refine Runs.ifN d0_108 (teq hc3).2 <| ?_
      refine Runs.iload d0_111 rfl <| Runs.iconst d0_113 ci_m1 <| ?_
      refine ite_el hf (fun hc4 hf => ?_) (fun hc4 hf => ?_)
      · refine Runs.icN d0_114 (teq hc4).2 <| ?_
        refine Runs.iload d0_117 rfl <| Runs.iconst d0_119 ci_m1 <| ?_
        refine ite_el hf (fun hc5 hf => ?_) (fun hc5 hf => ?_)
        · refine Runs.icN d0_120 (teq hc5).2 <| ?_
          refine Runs.iload d0_123 rfl <| Runs.iload d0_125 rfl <| ?_
          refine ite_el hf (fun hc6 hf => ?_) (fun hc6 hf => ?_)
          · refine Runs.icN d0_127 (teq hc6).2 <| ?_
            refine Runs.iload d0_130 rfl <| Runs.iload d0_132 rfl <| ?_
            refine ite_el hf (fun hc7 hf => ?_) (fun hc7 hf => ?_)
            · refine Runs.icN d0_134 (teq hc7).2 <| ?_
              obtain rfl := Option.some.inj hf
              exact Runs.iconst d0_137 ci_1 <| Runs.goto (pc' := 142) d0_138 (by decide) <| Runs.retZ (y := (1 : Int32)) d0_142 rfl ⟨by decide, by decide⟩ rfl rfl
            · refine Runs.icY (pc' := 141) d0_134 (feq hc7).2 (by decide) <| ?_
              obtain rfl := Option.some.inj hf
              exact Runs.iconst d0_141 ci_0 <| Runs.retZ (y := (0 : Int32)) d0_142 rfl ⟨by decide, by decide⟩ rfl rfl
          · refine Runs.icY (pc' := 141) d0_127 (feq hc6).2 (by decide) <| ?_
            obtain rfl := Option.some.inj hf
            exact Runs.iconst d0_141 ci_0 <| Runs.retZ (y := (0 : Int32)) d0_142 rfl ⟨by decide, by decide⟩ rfl rfl
        · refine Runs.icY (pc' := 141) d0_120 (feq hc5).2 (by decide) <| ?_
          obtain rfl := Option.some.inj hf
          exact Runs.iconst d0_141 ci_0 <| Runs.retZ (y := (0 : Int32)) d0_142 rfl ⟨by decide, by decide⟩ rfl rfl
      · refine Runs.icY (pc' := 141) d0_114 (feq hc4).2 (by decide) <| ?_
        obtain rfl := Option.some.inj hf
        exact Runs.iconst d0_141 ci_0 <| Runs.retZ (y := (0 : Int32)) d0_142 rfl ⟨by decide, by decide⟩ rfl rfl
    · refine Runs.ifY (pc' := 141) d0_108 (feq hc3).2 (by decide) <| ?_
      obtain rfl := Option.some.inj hf
      exact Runs.iconst d0_141 ci_0 <| Runs.retZ (y := (0 : Int32)) d0_142 rfl ⟨by decide, by decide⟩ rfl rfl
  · refine Runs.ifY (pc' := 141) d0_103 (feq hc2).2 (by decide) <| ?_
    obtain rfl := Option.some.inj hf
    exact Runs.iconst d0_141 ci_0 <| Runs.retZ (y := (0 : Int32)) d0_142 rfl ⟨by decide, by decide⟩ rfl rfl
def L_law_b87 (ob : Rec) (i7 : Int32) (i8 : Int32) (i9 : Int32) (i10 : Int32) (i11 : Int32) (i12 : Int32) (t0 : Int32) : Option (Int32) :=
  if t0 = (0 : Int32) then
    L_law_b99 ob i7 i8 i9 i10 i11 i12 t0 (-1 : Int32)
  else
    L_law_b99 ob i7 i8 i9 i10 i11 i12 t0 (0 : Int32)
set_option maxRecDepth 65536 in
set_option maxHeartbeats 4000000 in
theorem L_law_b87_p {C : Ctx} {res : Int32} (ob : Rec) (i7 : Int32) (i8 : Int32) (i9 : Int32) (i10 : Int32) (i11 : Int32) (i12 : Int32) (t0 : Int32) (hf : L_law_b87 ob i7 i8 i9 i10 i11 i12 t0 = some res) : Runs C B0 46 20760 87 [vn, vn, vn, vn, vn, vn, vn, vi i7, vi i8, vi i9, vi i10, vi i11, vi i12, vn, vn] [.int t0] (C.2.2.1 + 1 + 45, (C.2.2.1, 45, ob) :: []) (fun v _ => v = (some (.int res))) := by
  delta L_law_b87 at hf
  refine Runs.istore (P' := [vn, vn, vn, vn, vn, vn, vn, vi i7, vi i8, vi i9, vi i10, vi i11, vi i12, vi t0, vn]) d0_87 (by decide) rfl <| Runs.iload d0_89 rfl <| ?_
  refine ite_el hf (fun hc1 hf => ?_) (fun hc1 hf => ?_)
  · refine Runs.ifY (pc' := 98) d0_91 (teq hc1).1 (by decide) <| ?_
    exact Runs.iconst d0_98 ci_m1 <| L_law_b99_p ob i7 i8 i9 i10 i11 i12 t0 (-1 : Int32) hf
  · refine Runs.ifN d0_91 (feq hc1).1 <| ?_
    exact Runs.iconst d0_94 ci_0 <| Runs.goto (pc' := 99) d0_95 (by decide) <| L_law_b99_p ob i7 i8 i9 i10 i11 i12 t0 (0 : Int32) hf
def L_law (i0 : Int32) (i1 : Int32) (i2 : Int32) (i3 : Int32) (i4 : Int32) (i5 : Int32) : Option (Int32) :=
  (X_init i0 i1).bind fun q8 =>
  (X_resultWidth q8).bind fun r10 =>
  (X_resultCell q8 i4 i5).bind fun r12 =>
  (X_tableRows q8 i2).bind fun r14 =>
  (X_nodeWidth q8 i4).bind fun r16 =>
  bind2 (X_createTable q8 i2 i3) fun r18 q19 =>
  (X_tableRows q19 i2).bind fun r21 =>
  if i2 < (0 : Int32) then
    L_law_b87 q19 r10 r12 r14 r16 r18 r21 (0 : Int32)
  else
    if (3 : Int32) < i2 then
      L_law_b87 q19 r10 r12 r14 r16 r18 r21 (0 : Int32)
    else
      if i3 < (1 : Int32) then
        L_law_b87 q19 r10 r12 r14 r16 r18 r21 (0 : Int32)
      else
        if (3 : Int32) < i3 then
          L_law_b87 q19 r10 r12 r14 r16 r18 r21 (0 : Int32)
        else
          L_law_b87 q19 r10 r12 r14 r16 r18 r21 (1 : Int32)
set_option maxRecDepth 65536 in
set_option maxHeartbeats 4000000 in
theorem L_law_p {C : Ctx} {res : Int32} (i0 : Int32) (i1 : Int32) (i2 : Int32) (i3 : Int32) (i4 : Int32) (i5 : Int32) (hf : L_law i0 i1 i2 i3 i4 i5 = some res) : Runs C B0 0 0 0 [vi i0, vi i1, vi i2, vi i3, vi i4, vi i5, vn, vn, vn, vn, vn, vn, vn, vn, vn] [] (C.2.2.1, []) (fun v _ => v = (some (.int res))) := by
  delta L_law at hf
  refine Runs.newK (k' := 1) (n' := 64) d0_0 w0 ⟨by decide, by decide⟩ rfl rfl (by intro x hx; cases hx) <| Runs.dup d0_3 rfl <| Runs.iloadN d0_4 rfl <| Runs.iloadN d0_5 rfl <| ?_
  refine bind_el hf fun q8 hg9 hf => ?_
  refine Runs.callI (N := B1) (k' := 46) (n' := 20760) (W := 1) (as := [.int i0, .int i1]) (S' := [.ref C.2.2.1]) d0_6 rfl rfl w3 w4 cw1 ar1 (by decide) rfl rfl rfl rfl (X_init_pay hg9) <| ans0 <| Runs.astore (P' := [vi i0, vi i1, vi i2, vi i3, vi i4, vi i5, vr C.2.2.1, vn, vn, vn, vn, vn, vn, vn, vn]) d0_9 (by decide) rfl <| Runs.aload d0_11 rfl <| ?_
  refine bind_el hf fun r10 hg11 hf => ?_
  refine Runs.callV (N := B3) (W := 0) (as := []) (S' := []) d0_13 w123 w124 w125 w126 cw3 ar3 rk0_3_0 (by decide) rfl rfl (X_resultWidth_pay hg11) <| ans1 <| Runs.istore (P' := [vi i0, vi i1, vi i2, vi i3, vi i4, vi i5, vr C.2.2.1, vi r10, vn, vn, vn, vn, vn, vn, vn]) d0_16 (by decide) rfl <| Runs.aload d0_18 rfl <| Runs.iload d0_20 rfl <| Runs.iload d0_22 rfl <| ?_
  refine bind_el hf fun r12 hg13 hf => ?_
  refine Runs.callV (N := B4) (W := 0) (as := [.int i4, .int i5]) (S' := []) d0_24 w130 w131 w132 w133 cw4 ar4 rk0_4_0 (by decide) rfl rfl (X_resultCell_pay hg13) <| ans1 <| Runs.istore (P' := [vi i0, vi i1, vi i2, vi i3, vi i4, vi i5, vr C.2.2.1, vi r10, vi r12, vn, vn, vn, vn, vn, vn]) d0_27 (by decide) rfl <| Runs.aload d0_29 rfl <| Runs.iloadN d0_31 rfl <| ?_
  refine bind_el hf fun r14 hg15 hf => ?_
  refine Runs.callV (N := B5) (W := 0) (as := [.int i2]) (S' := []) d0_32 w137 w138 w139 w140 cw5 ar5 rk0_5_0 (by decide) rfl rfl (X_tableRows_pay hg15) <| ans1 <| Runs.istore (P' := [vi i0, vi i1, vi i2, vi i3, vi i4, vi i5, vr C.2.2.1, vi r10, vi r12, vi r14, vn, vn, vn, vn, vn]) d0_35 (by decide) rfl <| Runs.aload d0_37 rfl <| Runs.iload d0_39 rfl <| ?_
  refine bind_el hf fun r16 hg17 hf => ?_
  refine Runs.callV (N := B7) (W := 0) (as := [.int i4]) (S' := []) d0_41 w146 w147 w148 w149 cw7 ar7 rk0_7_0 (by decide) rfl rfl (X_nodeWidth_pay hg17) <| ans1 <| Runs.istore (P' := [vi i0, vi i1, vi i2, vi i3, vi i4, vi i5, vr C.2.2.1, vi r10, vi r12, vi r14, vi r16, vn, vn, vn, vn]) d0_44 (by decide) rfl <| Runs.aload d0_46 rfl <| Runs.iloadN d0_48 rfl <| Runs.iloadN d0_49 rfl <| ?_
  refine bind2_el hf fun r18 q19 hg20 hf => ?_
  refine Runs.callV (N := B9) (W := 0) (as := [.int i2, .int i3]) (S' := []) d0_50 w157 w158 w159 w160 cw9 ar9 rk0_9_0 (by decide) rfl rfl (X_createTable_pay hg20) <| ans1 <| Runs.istore (P' := [vi i0, vi i1, vi i2, vi i3, vi i4, vi i5, vr C.2.2.1, vi r10, vi r12, vi r14, vi r16, vi r18, vn, vn, vn]) d0_53 (by decide) rfl <| Runs.aload d0_55 rfl <| Runs.iloadN d0_57 rfl <| ?_
  refine bind_el hf fun r21 hg22 hf => ?_
  refine Runs.callV (N := B5) (W := 0) (as := [.int i2]) (S' := []) d0_58 w137 w138 w139 w140 cw5 ar5 rk0_5_0 (by decide) rfl rfl (X_tableRows_pay hg22) <| ans1 <| Runs.istore (P' := [vi i0, vi i1, vi i2, vi i3, vi i4, vi i5, vr C.2.2.1, vi r10, vi r12, vi r14, vi r16, vi r18, vi r21, vn, vn]) d0_61 (by decide) rfl <| Runs.iloadN d0_63 rfl <| ?_
  refine ite_el hf (fun hc23 hf => ?_) (fun hc23 hf => ?_)
  · refine Runs.ifY (pc' := 86) d0_64 (tlt hc23).1 (by decide) <| ?_
    exact Runs.iconst d0_86 ci_0 <| Runs.forget [false, false, false, false, false, false, false, true, true, true, true, true, true, false, false] rfl <| L_law_b87_p q19 r10 r12 r14 r16 r18 r21 (0 : Int32) hf
  · refine Runs.ifN d0_64 (flt hc23).1 <| ?_
    refine Runs.iloadN d0_67 rfl <| Runs.iconst d0_68 ci_3 <| ?_
    refine ite_el hf (fun hc24 hf => ?_) (fun hc24 hf => ?_)
    · refine Runs.icY (pc' := 86) d0_69 (tlt hc24).2.2.1 (by decide) <| ?_
      exact Runs.iconst d0_86 ci_0 <| Runs.forget [false, false, false, false, false, false, false, true, true, true, true, true, true, false, false] rfl <| L_law_b87_p q19 r10 r12 r14 r16 r18 r21 (0 : Int32) hf
    · refine Runs.icN d0_69 (flt hc24).2.2.1 <| ?_
      refine Runs.iloadN d0_72 rfl <| Runs.iconst d0_73 ci_1 <| ?_
      refine ite_el hf (fun hc25 hf => ?_) (fun hc25 hf => ?_)
      · refine Runs.icY (pc' := 86) d0_74 (tlt hc25).1 (by decide) <| ?_
        exact Runs.iconst d0_86 ci_0 <| Runs.forget [false, false, false, false, false, false, false, true, true, true, true, true, true, false, false] rfl <| L_law_b87_p q19 r10 r12 r14 r16 r18 r21 (0 : Int32) hf
      · refine Runs.icN d0_74 (flt hc25).1 <| ?_
        refine Runs.iloadN d0_77 rfl <| Runs.iconst d0_78 ci_3 <| ?_
        refine ite_el hf (fun hc26 hf => ?_) (fun hc26 hf => ?_)
        · refine Runs.icY (pc' := 86) d0_79 (tlt hc26).2.2.1 (by decide) <| ?_
          exact Runs.iconst d0_86 ci_0 <| Runs.forget [false, false, false, false, false, false, false, true, true, true, true, true, true, false, false] rfl <| L_law_b87_p q19 r10 r12 r14 r16 r18 r21 (0 : Int32) hf
        · refine Runs.icN d0_79 (flt hc26).2.2.1 <| ?_
          exact Runs.iconst d0_82 ci_1 <| Runs.goto (pc' := 87) d0_83 (by decide) <| Runs.forget [false, false, false, false, false, false, false, true, true, true, true, true, true, false, false] rfl <| L_law_b87_p q19 r10 r12 r14 r16 r18 r21 (1 : Int32) hf
theorem L_law_pay {C : Ctx} {res : Int32} {i0 : Int32} {i1 : Int32} {i2 : Int32} {i3 : Int32} {i4 : Int32} {i5 : Int32} (hf : L_law i0 i1 i2 i3 i4 i5 = some res) : Pays C B0 [.int i0, .int i1, .int i2, .int i3, .int i4, .int i5] (C.2.2.1, []) (fun v _ => v = (some (.int res))) :=
  Pays.of pnL (Nat.le_of_ble_eq_true rfl) (P := [vi i0, vi i1, vi i2, vi i3, vi i4, vi i5, vn, vn, vn, vn, vn, vn, vn, vn, vn]) 9 rfl (L_law_p i0 i1 i2 i3 i4 i5 hf)
--OWED--
theorem gI_sI (ob : Rec) (k j : Nat) (v : Int32) : gI (sI ob k v) j = if j = k then v else gI ob j := rfl
theorem gI_sA (ob : Rec) (k j : Nat) (i v : Int32) : gI (sA ob k i v) j = gI ob j := rfl
theorem gI_sJ (ob : Rec) (k j : Nat) (i : Int32) (v : Int64) : gI (sJ ob k i v) j = gI ob j := rfl
theorem gA_sI (ob : Rec) (k j : Nat) (v x : Int32) : gA (sI ob k v) j x = gA ob j x := rfl
theorem gA_sA (ob : Rec) (k j : Nat) (i v x : Int32) : gA (sA ob k i v) j x = if j = k ∧ x = i then v else gA ob j x := rfl
theorem gA_sJ (ob : Rec) (k j : Nat) (i x : Int32) (v : Int64) : gA (sJ ob k i v) j x = gA ob j x := rfl
theorem gJ_sI (ob : Rec) (k j : Nat) (v x : Int32) : gJ (sI ob k v) j x = gJ ob j x := rfl
theorem gJ_sA (ob : Rec) (k j : Nat) (i v x : Int32) : gJ (sA ob k i v) j x = gJ ob j x := rfl
theorem gJ_sJ (ob : Rec) (k j : Nat) (i x : Int32) (v : Int64) : gJ (sJ ob k i v) j x = if j = k ∧ x = i then v else gJ ob j x := rfl
theorem gI_z (k : Nat) : gI zrec k = 0 := rfl
theorem gA_z (k : Nat) (i : Int32) : gA zrec k i = 0 := rfl
theorem gJ_z (k : Nat) (i : Int32) : gJ zrec k i = 0 := rfl
theorem chk_ok {γ : Type} {n i : Int32} {A : Option γ} (h : 0 ≤ i.toInt ∧ i.toInt < n.toInt) : chk n i A = A := by
  have h0 : ¬ i < 0 := by rw [Int32.lt_iff_toInt_lt]; show ¬ i.toInt < 0; omega
  have h1 : i < n := by rw [Int32.lt_iff_toInt_lt]; exact h.2
  unfold chk; rw [if_neg h0, if_pos h1]
theorem lt_i {x y : Int32} : x < y ↔ x.toInt < y.toInt := Int32.lt_iff_toInt_lt
theorem le_i {x y : Int32} : x ≤ y ↔ x.toInt ≤ y.toInt := Int32.le_iff_toInt_le
theorem eq_i32 {x y : Int32} : x = y ↔ x.toInt = y.toInt := Int32.toInt_inj.symm
theorem bm_id {n : Int} (h : -2147483648 ≤ n ∧ n < 2147483648) : n.bmod (2 ^ 32) = n := Int.bmod_eq_of_le (by omega) (by omega)
theorem ad {x y : Int32} (h : -2147483648 ≤ x.toInt + y.toInt ∧ x.toInt + y.toInt < 2147483648) : (x + y).toInt = x.toInt + y.toInt := by rw [Int32.toInt_add, bm_id h]
theorem sb {x y : Int32} (h : -2147483648 ≤ x.toInt - y.toInt ∧ x.toInt - y.toInt < 2147483648) : (x - y).toInt = x.toInt - y.toInt := by rw [Int32.toInt_sub, bm_id h]
theorem ml {x y : Int32} (h : -2147483648 ≤ x.toInt * y.toInt ∧ x.toInt * y.toInt < 2147483648) : (x * y).toInt = x.toInt * y.toInt := by rw [Int32.toInt_mul, bm_id h]
theorem own_clamp (ob : Rec) (a b c : Int32) : ∃ v, X_clamp ob a b c = some v := by
  unfold X_clamp
  (repeat' split) <;> exact ⟨_, rfl⟩
theorem own_init (a b : Int32) : ∃ r, X_init a b = some r ∧ gI r 9 = 0 ∧ gI r 10 = 0 ∧ gI r 11 = 0 ∧ ∀ k i, gA r k i = 0 := by
  unfold X_init
  obtain ⟨v, hv⟩ := own_clamp (sI (sI (sI (sI (sI (sI (sI zrec 0 (0 : Int32)) 1 (1 : Int32)) 2 (2 : Int32)) 3 (3 : Int32)) 4 (4 : Int32)) 5 (0 : Int32)) 6 (1 : Int32)) a 1 8
  rw [hv]
  obtain ⟨w, hw⟩ := own_clamp (sI (sI (sI (sI (sI (sI (sI (sI zrec 0 (0 : Int32)) 1 (1 : Int32)) 2 (2 : Int32)) 3 (3 : Int32)) 4 (4 : Int32)) 5 (0 : Int32)) 6 (1 : Int32)) 7 v) b 16 64
  rw [Option.bind_some, hw]
  exact ⟨_, rfl, rfl, rfl, rfl, fun _ _ => rfl⟩
theorem owed : ∀ i0 i1 i2 i3 i4 i5 : Int32, ∃ NF : Nat, L_law i0 i1 i2 i3 i4 i5 = some 1 := by
  intro i0 i1 i2 i3 i4 i5
  refine ⟨0, ?_⟩
  obtain ⟨r, h, e9, e10, e11, hz⟩ := own_init i0 i1
  have cell : X_resultCell r i4 i5 = some 0 := by
    unfold X_resultCell
    rw [e11]
    by_cases c : i4 < 0 <;> simp [c]
  have nw : X_nodeWidth r i4 = some (-1) := by
    unfold X_nodeWidth X_nodeExists
    rw [e9]
    by_cases c : i4 < 0 <;> simp [c]
  unfold L_law
  simp only [h, Option.bind_some, cell, nw, X_resultWidth, e10]
  by_cases c1 : i2 < 0
  · simp [X_tableRows, X_tableExists, X_createTable, bind2, c1, L_law_b87, L_law_b99]
  · by_cases c2 : 3 < i2
    · have c2' : ¬ i2 < 4 := by simp only [lt_i, Int32.reduceToInt] at *; omega
      simp [X_tableRows, X_tableExists, X_createTable, bind2, c1, c2, c2', L_law_b87, L_law_b99]
    · have c2' : i2 < 4 := by simp only [lt_i, Int32.reduceToInt] at *; omega
      by_cases c3 : i3 < 1
      · simp [X_tableRows, X_tableExists, X_createTable, bind2, chk, hz, c1, c2, c2', c3, L_law_b87, L_law_b99]
      · by_cases c4 : 3 < i3
        · simp [X_tableRows, X_tableExists, X_createTable, bind2, chk, hz, c1, c2, c2', c3, c4, L_law_b87, L_law_b99]
        · have c5 : ¬ i3 = 0 := by intro u; rw [u] at c3; exact c3 (by decide)
          simp [X_tableRows, X_tableExists, X_createTable, bind2, chk, hz, c1, c2, c2', c3, c4, c5, L_law_b87, L_law_b99, gA_sA]
-- owed : ∀ i0 i1 i2 i3 i4 i5 : Int32, ∃ NF : Nat, L_law i0 i1 i2 i3 i4 i5 = some 1
--COMES--
set_option maxRecDepth 65536 in
set_option maxHeartbeats 4000000 in
theorem comes_1 {Post : Tables → Env → Array Value → State → Outcome → State → Prop} (hpost : ∀ tb e args s v u, (limb_1_1.after args s (.returned v) u = true ∧ limb_1_2.after args s (.returned v) u = true ∧ True) → FrameEnd s (.returned v) u (Jvm.fieldLocs frame_1_writes args s ++ Jvm.arrayLocs frame_1_arrays args s ++ Jvm.staticLocs frame_1_statics s) 104 41600 → Post tb e args s (.returned v) u) :
    ArmFor flags0 classFile x code maxLocals ret World_1 tables_1 room_1 Calls_1 rest_1 Pre_1 Post := by
  intro l hfl _ _ p e ha hc hk s m args below hf hA hF happ hP
  obtain ⟨hcalls, hrest, hpre⟩ := hP
  obtain ⟨-, -, -, hnamed, -, -, -, hat⟩ := (Spec.applies_iff hf).mp happ
  obtain ⟨hg, hn⟩ := and_e (Cond.before_iff.mp (show (Jvm.Cond.and given_1 narrow_1).before args s = true from hpre))
  obtain ⟨hcnt, hg⟩ := and_e hg
  obtain ⟨w0, w1, w2, w3, w4, w5, rfl⟩ : ∃ w0 w1 w2 w3 w4 w5 : Value, args = #[w0, w1, w2, w3, w4, w5] := by
    have hs : args.size = 6 := by simpa [Cond.value, given_1] using hcnt
    obtain ⟨L⟩ := args
    match L, hs with
    | [w0, w1, w2, w3, w4, w5], _ => exact ⟨w0, w1, w2, w3, w4, w5, rfl⟩
  have hw := fun d (hd : d ∈ tables_1) => atoms_spec (ws := Jvm.Cond.code x code maxLocals ret :: tables_1) hat d (List.mem_cons_of_mem _ hd)
  have hfit : Fit s := fun {y c} hc i hi => by
    obtain ⟨ha, rfl⟩ := Array.getElem?_eq_some_iff.mp hc
    have q := List.all_eq_true.mp ((Array.all_eq_true_iff_forall_mem.mp hF) _ (Array.getElem_mem ha)) i (List.mem_range.mpr hi)
    simpa [Array.getElem?_eq_getElem hi] using q
  obtain ⟨h0, hg⟩ := and_e hg
  obtain ⟨i0, e0⟩ := is_v h0
  obtain rfl : w0 = (.int i0) := Option.some.inj e0
  obtain ⟨h1, hg⟩ := and_e hg
  obtain ⟨i1, e1⟩ := is_v h1
  obtain rfl : w1 = (.int i1) := Option.some.inj e1
  obtain ⟨h2, hg⟩ := and_e hg
  obtain ⟨i2, e2⟩ := is_v h2
  obtain rfl : w2 = (.int i2) := Option.some.inj e2
  obtain ⟨h3, hg⟩ := and_e hg
  obtain ⟨i3, e3⟩ := is_v h3
  obtain rfl : w3 = (.int i3) := Option.some.inj e3
  obtain ⟨h4, hg⟩ := and_e hg
  obtain ⟨i4, e4⟩ := is_v h4
  obtain rfl : w4 = (.int i4) := Option.some.inj e4
  have h5 := hg
  obtain ⟨i5, e5⟩ := is_v h5
  obtain rfl : w5 = (.int i5) := Option.some.inj e5
  obtain ⟨NF, hlaw⟩ := owed i0 i1 i2 i3 i4 i5
  have hp := L_law_pay (C := (l, s, s.heap.size, #[.int i0, .int i1, .int i2, .int i3, .int i4, .int i5])) hlaw hw s.heap (Rep.start s) tables_1
  obtain ⟨n, o, h1, h2, h3, v, L, rfl, ⟨N, G', -, rfl⟩, hq⟩ := hp p e ha hc hk s m _ below hf ((Spec.applies_iff_loose hf).mp happ).1 ⟨rfl, State.Warmed39.refl s, rfl⟩ trivial
  refine ⟨n, _, h1, h2, h3, hpost _ _ _ _ _ _ ⟨Cond.after_iff.mpr rfl, Cond.after_iff.mpr (eq_i res_at (Term.int_eval (1)) rfl), trivial⟩ ⟨hq.1, hq.2.1, (hq.2.2.sift fun y hy => Or.inr (N y hy)).mono (by decide) (by decide)⟩⟩
theorem main_1_1 : Claimed_1_1 := comes_1 fun _ _ _ _ _ _ h hF => ⟨h.1, hF⟩
theorem main_1_2 : Claimed_1_2 := comes_1 fun _ _ _ _ _ _ h hF => ⟨h.2.1, hF⟩
end Jvm.Pilot.@@N@@
namespace Jvm.Pilot.@@N@@
open Jvm Jvm.ClassFile Sem Op Lib Jvm.Free Jvm.Stand Jvm.Pilot.@@N@@.Jvm.D
/-! MADE BY PROGRAM (witnessworld.py) out of the Statement's table words and the real class files: 11 classes; the members and pool entries that the words name. The judged class is class 1, her method 1. -/
namespace start1
open Jvm.ClassFile
def u (s : String) : CpInfo := .utf8 (stringToUtf16 s)
/-- a pool by its gaps: so many unusable entries, then the entry; so many at the end -/
def gap : Nat → List CpInfo → List CpInfo
  | 0, r => r
  | n + 1, r => .unusable :: gap n r
def poolList (es : List (Nat × CpInfo)) (last : Nat) : List CpInfo := es.foldr (fun e r => gap e.1 (e.2 :: r)) (gap last [])
def pool (es : List (Nat × CpInfo)) (last : Nat) : Array CpInfo := ⟨poolList es last⟩
def fileOf (pool : Array CpInfo) (this : Nat) (attrs : Array Attribute := #[]) (ms : Array MethodInfo := #[]) (fl : Nat := 33) (sup : Nat := 0) (ifs : Array Nat := #[]) (fds : Array FieldInfo := #[]) : ClassFile where
  minorVersion := 0
  majorVersion := 65
  constantPool := pool
  accessFlags := fl
  thisClass := this
  superClass := sup
  interfaces := ifs
  fields := fds
  methods := ms
  attributes := attrs
def plain (name : String) (sup : Option ClassId) : Class where
  name := name
  kind := .ordinary
  loader := none
  accessFlags := 33
  super := sup
  interfaces := #[]
  cf := none
  fields := #[]
  methods := #[]
  instanceTypes := #[]
  staticTypes := #[]
  resolved := #[]
  callSites := []
  init := .initialized
  statics := none
  mirror := none

def pool0 : Array CpInfo := pool [(5, u "<init>"), (0, u "()V"), (1, .class_ 10), (1, u "java/lang/Object")] 113

def k0c0 : Code := { maxStack := 0, maxLocals := 1, code := object_method_1_code, exceptionTable := #[], attributes := #[] }
def k0m0 : Method := { name := "<init>", desc := "()V", sig := { parameters := [], returnType := none }, accessFlags := 1, code := some k0c0 }
/-- java/lang/Object -/
def k0 : Class := { plain "java/lang/Object" none with
  accessFlags := 33
  interfaces := #[]
  cf := some (fileOf pool0 8 #[] #[{ accessFlags := 1, nameIndex := 5, descriptorIndex := 6, attributes := #[] }] 33 0 #[] #[])
  fields := #[]
  methods := #[k0m0]
  instanceTypes := #[]
  staticTypes := #[]
  resolved := Array.replicate 124 none
  statics := none }

def pool1 : Array CpInfo := pool [(2, .class_ 4), (1, u "java/lang/Object"), (0, u "<init>"), (0, u "()V"), (0, .class_ 8), (0, u "QueryRewriter"), (0, .methodref 7 10), (0, .nameAndType 5 11), (0, u "(II)V"), (0, .methodref 7 13), (0, .nameAndType 14 15), (0, u "resultWidth"), (0, u "()I"), (0, .methodref 7 17), (0, .nameAndType 18 19), (0, u "resultCell"), (0, u "(II)I"), (0, .methodref 7 21), (0, .nameAndType 22 23), (0, u "tableRows"), (0, u "(I)I"), (0, .methodref 7 25), (0, .nameAndType 26 23), (0, u "nodeWidth"), (0, .methodref 7 28), (0, .nameAndType 29 30), (0, u "createTable"), (0, u "(II)Z"), (0, .class_ 32), (0, u "QueryRewriterL1"), (2, u "law"), (0, u "(IIIIII)Z")] 3

def k1m0 : Method := { name := "<init>", desc := "()V", sig := { parameters := [], returnType := none }, accessFlags := 1, code := none }
def k1c1 : Code := { maxStack := 4, maxLocals := 15, code := code, exceptionTable := #[], attributes := #[] }
def k1m1 : Method := { name := "law", desc := "(IIIIII)Z", sig := { parameters := [.int, .int, .int, .int, .int, .int], returnType := some .boolean }, accessFlags := 9, code := some k1c1 }
/-- QueryRewriterL1 -/
def k1 : Class := { plain "QueryRewriterL1" (some 0) with
  accessFlags := 33
  interfaces := #[]
  cf := some (fileOf pool1 31 #[] #[{ accessFlags := 1, nameIndex := 5, descriptorIndex := 6, attributes := #[] }, { accessFlags := 9, nameIndex := 35, descriptorIndex := 36, attributes := #[] }] 33 2 #[] #[])
  fields := #[]
  methods := #[k1m0, k1m1]
  instanceTypes := #[]
  staticTypes := #[]
  resolved := Array.replicate 40 none
  statics := none }

def pool2 : Array CpInfo := pool [(1, .methodref 2 3), (0, .class_ 4), (0, .nameAndType 5 6), (0, u "java/lang/Object"), (0, u "<init>"), (0, u "()V"), (0, .fieldref 8 9), (0, .class_ 10), (0, .nameAndType 11 12), (0, u "QueryRewriter"), (0, u "tyScan"), (0, u "I"), (0, .fieldref 8 14), (0, .nameAndType 15 12), (0, u "tySelect"), (0, .fieldref 8 17), (0, .nameAndType 18 12), (0, u "tyProject"), (0, .fieldref 8 20), (0, .nameAndType 21 12), (0, u "tyJoin"), (0, .fieldref 8 23), (0, .nameAndType 24 12), (0, u "tyView"), (0, .fieldref 8 26), (0, .nameAndType 27 12), (0, u "plScan"), (0, .fieldref 8 29), (0, .nameAndType 30 12), (0, u "plJoin"), (0, .fieldref 8 32), (0, .nameAndType 33 34), (0, u "tCols"), (0, u "[I"), (0, .fieldref 8 36), (0, .nameAndType 37 34), (0, u "tRows"), (0, .fieldref 8 39), (0, .nameAndType 40 34), (0, u "tCells"), (0, .fieldref 8 42), (0, .nameAndType 43 34), (0, u "pOp"), (0, .fieldref 8 45), (0, .nameAndType 46 34), (0, u "pA"), (0, .fieldref 8 48), (0, .nameAndType 49 34), (0, u "pB"), (0, .fieldref 8 51), (0, .nameAndType 52 34), (0, u "pFl"), (0, .fieldref 8 54), (0, .nameAndType 55 34), (0, u "nType"), (0, .fieldref 8 57), (0, .nameAndType 58 34), (0, u "nWidth"), (0, .fieldref 8 60), (0, .nameAndType 61 34), (0, u "nX"), (0, .fieldref 8 63), (0, .nameAndType 64 34), (0, u "nY"), (0, .fieldref 8 66), (0, .nameAndType 67 34), (0, u "nKind"), (0, .fieldref 8 69), (0, .nameAndType 70 34), (0, u "nPacked"), (0, .fieldref 8 72), (0, .nameAndType 73 34), (0, u "nAtStart"), (0, .fieldref 8 75), (0, .nameAndType 76 34), (0, u "nAtCnt"), (0, .fieldref 8 78), (0, .nameAndType 79 34), (0, u "aOp"), (0, .fieldref 8 81), (0, .nameAndType 82 34), (0, u "aA"), (0, .fieldref 8 84), (0, .nameAndType 85 34), (0, u "aB"), (0, .fieldref 8 87), (0, .nameAndType 88 34), (0, u "aFl"), (0, .fieldref 8 90), (0, .nameAndType 91 34), (0, u "viewNode"), (0, .fieldref 8 93), (0, .nameAndType 94 34), (0, u "weight"), (0, .fieldref 8 96), (0, .nameAndType 97 98), (0, u "reach"), (0, u "[Z"), (0, .fieldref 8 100), (0, .nameAndType 101 34), (0, u "bag"), (0, .fieldref 8 103), (0, .nameAndType 104 34), (0, u "bagCnt"), (0, .fieldref 8 106), (0, .nameAndType 107 34), (0, u "rowBuf"), (0, .fieldref 8 109), (0, .nameAndType 110 34), (0, u "res"), (0, .fieldref 8 112), (0, .nameAndType 113 34), (0, u "plType"), (0, .fieldref 8 115), (0, .nameAndType 116 34), (0, u "plTable"), (0, .fieldref 8 118), (0, .nameAndType 119 34), (0, u "plLeft"), (0, .fieldref 8 121), (0, .nameAndType 122 34), (0, u "plRight"), (0, .fieldref 8 124), (0, .nameAndType 125 34), (0, u "plKind"), (0, .fieldref 8 127), (0, .nameAndType 128 34), (0, u "plLen"), (0, .fieldref 8 130), (0, .nameAndType 131 34), (0, u "plMap"), (0, .fieldref 8 133), (0, .nameAndType 134 34), (0, u "needMask"), (0, .fieldref 8 136), (0, .nameAndType 137 98), (0, u "plEmpty"), (0, .fieldref 8 139), (0, .nameAndType 140 34), (0, u "head"), (0, .fieldref 8 142), (0, .nameAndType 143 34), (0, u "qOp"), (0, .fieldref 8 145), (0, .nameAndType 146 34), (0, u "qA"), (0, .fieldref 8 148), (0, .nameAndType 149 34), (0, u "qB"), (0, .fieldref 8 151), (0, .nameAndType 152 34), (0, u "qFl"), (0, .fieldref 8 154), (0, .nameAndType 155 34), (0, u "qNext"), (0, .fieldref 8 157), (0, .nameAndType 158 34), (0, u "stNode"), (0, .fieldref 8 160), (0, .nameAndType 161 34), (0, u "stPhase"), (0, .fieldref 8 163), (0, .nameAndType 164 34), (0, u "resStack"), (0, .fieldref 8 166), (0, .nameAndType 167 34), (0, u "tmpMap"), (0, .methodref 8 169), (0, .nameAndType 170 171), (0, u "clamp"), (0, u "(III)I"), (0, .fieldref 8 173), (0, .nameAndType 174 12), (0, u "rowCap"), (0, .fieldref 8 176), (0, .nameAndType 177 12), (0, u "weightLimit"), (0, .methodref 8 179), (0, .nameAndType 180 181), (0, u "tableExists"), (0, u "(I)Z"), (2, u "pendN"), (2, u "atomN"), (0, .fieldref 8 189), (0, .nameAndType 190 12), (0, u "nodeN"), (4, .methodref 8 196), (0, .nameAndType 197 181), (0, u "nodeExists"), (13, u "(I)I"), (6, u "(II)I"), (0, .fieldref 8 220), (0, .nameAndType 221 12), (0, u "resW"), (0, .fieldref 8 223), (0, .nameAndType 224 12), (0, u "resN"), (9, u "(II)Z"), (3, u "(II)V"), (51, u "planN"), (11, u "qN"), (2, u "sp"), (2, u "rsp"), (2, u "buildFail"), (0, u "Z"), (106, u "NULL"), (1, u "ERR_RANGE"), (1, u "ERR_FULL"), (1, u "ERR_TOO_BIG"), (1, u "EQ"), (1, u "NE"), (1, u "LT"), (1, u "LE"), (1, u "GT"), (1, u "GE"), (1, u "ISNULL"), (1, u "NOTNULL"), (1, u "A_COL"), (0, u "B_COL"), (0, u "INNER"), (0, u "LEFT"), (0, u "MODE_DIRECT"), (0, u "MODE_REWRITTEN"), (0, u "MAX_TABLES"), (0, u "MAX_TABLE_COLS"), (0, u "MAX_NODES"), (1, u "MAX_WIDTH"), (1, u "MAX_PENDING"), (0, u "MAX_ATOMS"), (1, u "MAX_VIEWS"), (0, u "MAX_RESULT_ROWS"), (3, u "createTable"), (2, u "tableRows"), (8, u "nodeWidth"), (1, u "resultWidth"), (0, u "()I"), (0, u "resultCell")] 3

def k2c0 : Code := { maxStack := 5, maxLocals := 3, code := prog_1_method_1_code, exceptionTable := #[], attributes := #[] }
def k2m0 : Method := { name := "<init>", desc := "(II)V", sig := { parameters := [.int, .int], returnType := none }, accessFlags := 1, code := some k2c0 }
def k2c1 : Code := { maxStack := 2, maxLocals := 4, code := prog_1_method_2_code, exceptionTable := #[], attributes := #[] }
def k2m1 : Method := { name := "clamp", desc := "(III)I", sig := { parameters := [.int, .int, .int], returnType := some .int }, accessFlags := 2, code := some k2c1 }
def k2c2 : Code := { maxStack := 3, maxLocals := 3, code := prog_1_method_3_code, exceptionTable := #[], attributes := #[] }
def k2m2 : Method := { name := "createTable", desc := "(II)Z", sig := { parameters := [.int, .int], returnType := some .boolean }, accessFlags := 1, code := some k2c2 }
def k2c3 : Code := { maxStack := 2, maxLocals := 2, code := prog_1_method_4_code, exceptionTable := #[], attributes := #[] }
def k2m3 : Method := { name := "tableExists", desc := "(I)Z", sig := { parameters := [.int], returnType := some .boolean }, accessFlags := 2, code := some k2c3 }
def k2c4 : Code := { maxStack := 2, maxLocals := 2, code := prog_1_method_7_code, exceptionTable := #[], attributes := #[] }
def k2m4 : Method := { name := "tableRows", desc := "(I)I", sig := { parameters := [.int], returnType := some .int }, accessFlags := 1, code := some k2c4 }
def k2c5 : Code := { maxStack := 2, maxLocals := 2, code := prog_1_method_12_code, exceptionTable := #[], attributes := #[] }
def k2m5 : Method := { name := "nodeExists", desc := "(I)Z", sig := { parameters := [.int], returnType := some .boolean }, accessFlags := 2, code := some k2c5 }
def k2c6 : Code := { maxStack := 2, maxLocals := 2, code := prog_1_method_20_code, exceptionTable := #[], attributes := #[] }
def k2m6 : Method := { name := "nodeWidth", desc := "(I)I", sig := { parameters := [.int], returnType := some .int }, accessFlags := 1, code := some k2c6 }
def k2c7 : Code := { maxStack := 1, maxLocals := 1, code := prog_1_method_22_code, exceptionTable := #[], attributes := #[] }
def k2m7 : Method := { name := "resultWidth", desc := "()I", sig := { parameters := [], returnType := some .int }, accessFlags := 1, code := some k2c7 }
def k2c8 : Code := { maxStack := 3, maxLocals := 3, code := prog_1_method_23_code, exceptionTable := #[], attributes := #[] }
def k2m8 : Method := { name := "resultCell", desc := "(II)I", sig := { parameters := [.int, .int], returnType := some .int }, accessFlags := 1, code := some k2c8 }
/-- QueryRewriter -/
def k2 : Class := { plain "QueryRewriter" (some 0) with
  accessFlags := 49
  interfaces := #[]
  cf := some (fileOf pool2 8 #[] #[{ accessFlags := 1, nameIndex := 5, descriptorIndex := 238, attributes := #[] }, { accessFlags := 2, nameIndex := 170, descriptorIndex := 171, attributes := #[] }, { accessFlags := 1, nameIndex := 463, descriptorIndex := 234, attributes := #[] }, { accessFlags := 2, nameIndex := 180, descriptorIndex := 181, attributes := #[] }, { accessFlags := 1, nameIndex := 466, descriptorIndex := 211, attributes := #[] }, { accessFlags := 2, nameIndex := 197, descriptorIndex := 181, attributes := #[] }, { accessFlags := 1, nameIndex := 475, descriptorIndex := 211, attributes := #[] }, { accessFlags := 1, nameIndex := 477, descriptorIndex := 478, attributes := #[] }, { accessFlags := 1, nameIndex := 479, descriptorIndex := 218, attributes := #[] }] 49 2 #[] #[{ accessFlags := 25, nameIndex := 419, descriptorIndex := 12, attributes := #[] }, { accessFlags := 25, nameIndex := 421, descriptorIndex := 12, attributes := #[] }, { accessFlags := 25, nameIndex := 423, descriptorIndex := 12, attributes := #[] }, { accessFlags := 25, nameIndex := 425, descriptorIndex := 12, attributes := #[] }, { accessFlags := 25, nameIndex := 427, descriptorIndex := 12, attributes := #[] }, { accessFlags := 25, nameIndex := 429, descriptorIndex := 12, attributes := #[] }, { accessFlags := 25, nameIndex := 431, descriptorIndex := 12, attributes := #[] }, { accessFlags := 25, nameIndex := 433, descriptorIndex := 12, attributes := #[] }, { accessFlags := 25, nameIndex := 435, descriptorIndex := 12, attributes := #[] }, { accessFlags := 25, nameIndex := 437, descriptorIndex := 12, attributes := #[] }, { accessFlags := 25, nameIndex := 439, descriptorIndex := 12, attributes := #[] }, { accessFlags := 25, nameIndex := 441, descriptorIndex := 12, attributes := #[] }, { accessFlags := 25, nameIndex := 443, descriptorIndex := 12, attributes := #[] }, { accessFlags := 25, nameIndex := 444, descriptorIndex := 12, attributes := #[] }, { accessFlags := 25, nameIndex := 445, descriptorIndex := 12, attributes := #[] }, { accessFlags := 25, nameIndex := 446, descriptorIndex := 12, attributes := #[] }, { accessFlags := 25, nameIndex := 447, descriptorIndex := 12, attributes := #[] }, { accessFlags := 25, nameIndex := 448, descriptorIndex := 12, attributes := #[] }, { accessFlags := 25, nameIndex := 449, descriptorIndex := 12, attributes := #[] }, { accessFlags := 25, nameIndex := 450, descriptorIndex := 12, attributes := #[] }, { accessFlags := 25, nameIndex := 451, descriptorIndex := 12, attributes := #[] }, { accessFlags := 25, nameIndex := 453, descriptorIndex := 12, attributes := #[] }, { accessFlags := 25, nameIndex := 455, descriptorIndex := 12, attributes := #[] }, { accessFlags := 25, nameIndex := 456, descriptorIndex := 12, attributes := #[] }, { accessFlags := 25, nameIndex := 458, descriptorIndex := 12, attributes := #[] }, { accessFlags := 25, nameIndex := 459, descriptorIndex := 12, attributes := #[] }, { accessFlags := 18, nameIndex := 11, descriptorIndex := 12, attributes := #[] }, { accessFlags := 18, nameIndex := 15, descriptorIndex := 12, attributes := #[] }, { accessFlags := 18, nameIndex := 18, descriptorIndex := 12, attributes := #[] }, { accessFlags := 18, nameIndex := 21, descriptorIndex := 12, attributes := #[] }, { accessFlags := 18, nameIndex := 24, descriptorIndex := 12, attributes := #[] }, { accessFlags := 18, nameIndex := 27, descriptorIndex := 12, attributes := #[] }, { accessFlags := 18, nameIndex := 30, descriptorIndex := 12, attributes := #[] }, { accessFlags := 2, nameIndex := 174, descriptorIndex := 12, attributes := #[] }, { accessFlags := 2, nameIndex := 177, descriptorIndex := 12, attributes := #[] }, { accessFlags := 2, nameIndex := 33, descriptorIndex := 34, attributes := #[] }, { accessFlags := 2, nameIndex := 37, descriptorIndex := 34, attributes := #[] }, { accessFlags := 2, nameIndex := 40, descriptorIndex := 34, attributes := #[] }, { accessFlags := 2, nameIndex := 184, descriptorIndex := 12, attributes := #[] }, { accessFlags := 2, nameIndex := 43, descriptorIndex := 34, attributes := #[] }, { accessFlags := 2, nameIndex := 46, descriptorIndex := 34, attributes := #[] }, { accessFlags := 2, nameIndex := 49, descriptorIndex := 34, attributes := #[] }, { accessFlags := 2, nameIndex := 52, descriptorIndex := 34, attributes := #[] }, { accessFlags := 2, nameIndex := 190, descriptorIndex := 12, attributes := #[] }, { accessFlags := 2, nameIndex := 55, descriptorIndex := 34, attributes := #[] }, { accessFlags := 2, nameIndex := 58, descriptorIndex := 34, attributes := #[] }, { accessFlags := 2, nameIndex := 61, descriptorIndex := 34, attributes := #[] }, { accessFlags := 2, nameIndex := 64, descriptorIndex := 34, attributes := #[] }, { accessFlags := 2, nameIndex := 67, descriptorIndex := 34, attributes := #[] }, { accessFlags := 2, nameIndex := 70, descriptorIndex := 34, attributes := #[] }, { accessFlags := 2, nameIndex := 73, descriptorIndex := 34, attributes := #[] }, { accessFlags := 2, nameIndex := 76, descriptorIndex := 34, attributes := #[] }, { accessFlags := 2, nameIndex := 187, descriptorIndex := 12, attributes := #[] }, { accessFlags := 2, nameIndex := 79, descriptorIndex := 34, attributes := #[] }, { accessFlags := 2, nameIndex := 82, descriptorIndex := 34, attributes := #[] }, { accessFlags := 2, nameIndex := 85, descriptorIndex := 34, attributes := #[] }, { accessFlags := 2, nameIndex := 88, descriptorIndex := 34, attributes := #[] }, { accessFlags := 2, nameIndex := 91, descriptorIndex := 34, attributes := #[] }, { accessFlags := 2, nameIndex := 94, descriptorIndex := 34, attributes := #[] }, { accessFlags := 2, nameIndex := 97, descriptorIndex := 98, attributes := #[] }, { accessFlags := 2, nameIndex := 101, descriptorIndex := 34, attributes := #[] }, { accessFlags := 2, nameIndex := 104, descriptorIndex := 34, attributes := #[] }, { accessFlags := 2, nameIndex := 107, descriptorIndex := 34, attributes := #[] }, { accessFlags := 2, nameIndex := 221, descriptorIndex := 12, attributes := #[] }, { accessFlags := 2, nameIndex := 224, descriptorIndex := 12, attributes := #[] }, { accessFlags := 2, nameIndex := 110, descriptorIndex := 34, attributes := #[] }, { accessFlags := 2, nameIndex := 290, descriptorIndex := 12, attributes := #[] }, { accessFlags := 2, nameIndex := 113, descriptorIndex := 34, attributes := #[] }, { accessFlags := 2, nameIndex := 116, descriptorIndex := 34, attributes := #[] }, { accessFlags := 2, nameIndex := 119, descriptorIndex := 34, attributes := #[] }, { accessFlags := 2, nameIndex := 122, descriptorIndex := 34, attributes := #[] }, { accessFlags := 2, nameIndex := 125, descriptorIndex := 34, attributes := #[] }, { accessFlags := 2, nameIndex := 128, descriptorIndex := 34, attributes := #[] }, { accessFlags := 2, nameIndex := 131, descriptorIndex := 34, attributes := #[] }, { accessFlags := 2, nameIndex := 134, descriptorIndex := 34, attributes := #[] }, { accessFlags := 2, nameIndex := 137, descriptorIndex := 98, attributes := #[] }, { accessFlags := 2, nameIndex := 140, descriptorIndex := 34, attributes := #[] }, { accessFlags := 2, nameIndex := 302, descriptorIndex := 12, attributes := #[] }, { accessFlags := 2, nameIndex := 143, descriptorIndex := 34, attributes := #[] }, { accessFlags := 2, nameIndex := 146, descriptorIndex := 34, attributes := #[] }, { accessFlags := 2, nameIndex := 149, descriptorIndex := 34, attributes := #[] }, { accessFlags := 2, nameIndex := 152, descriptorIndex := 34, attributes := #[] }, { accessFlags := 2, nameIndex := 155, descriptorIndex := 34, attributes := #[] }, { accessFlags := 2, nameIndex := 305, descriptorIndex := 12, attributes := #[] }, { accessFlags := 2, nameIndex := 158, descriptorIndex := 34, attributes := #[] }, { accessFlags := 2, nameIndex := 161, descriptorIndex := 34, attributes := #[] }, { accessFlags := 2, nameIndex := 308, descriptorIndex := 12, attributes := #[] }, { accessFlags := 2, nameIndex := 164, descriptorIndex := 34, attributes := #[] }, { accessFlags := 2, nameIndex := 311, descriptorIndex := 312, attributes := #[] }, { accessFlags := 2, nameIndex := 167, descriptorIndex := 34, attributes := #[] }])
  fields := #[{ name := "NULL", type := .int, accessFlags := 25, slot := 0, constantValue := 0 }, { name := "ERR_RANGE", type := .int, accessFlags := 25, slot := 1, constantValue := 0 }, { name := "ERR_FULL", type := .int, accessFlags := 25, slot := 2, constantValue := 0 }, { name := "ERR_TOO_BIG", type := .int, accessFlags := 25, slot := 3, constantValue := 0 }, { name := "EQ", type := .int, accessFlags := 25, slot := 4, constantValue := 0 }, { name := "NE", type := .int, accessFlags := 25, slot := 5, constantValue := 0 }, { name := "LT", type := .int, accessFlags := 25, slot := 6, constantValue := 0 }, { name := "LE", type := .int, accessFlags := 25, slot := 7, constantValue := 0 }, { name := "GT", type := .int, accessFlags := 25, slot := 8, constantValue := 0 }, { name := "GE", type := .int, accessFlags := 25, slot := 9, constantValue := 0 }, { name := "ISNULL", type := .int, accessFlags := 25, slot := 10, constantValue := 0 }, { name := "NOTNULL", type := .int, accessFlags := 25, slot := 11, constantValue := 0 }, { name := "A_COL", type := .int, accessFlags := 25, slot := 12, constantValue := 0 }, { name := "B_COL", type := .int, accessFlags := 25, slot := 13, constantValue := 0 }, { name := "INNER", type := .int, accessFlags := 25, slot := 14, constantValue := 0 }, { name := "LEFT", type := .int, accessFlags := 25, slot := 15, constantValue := 0 }, { name := "MODE_DIRECT", type := .int, accessFlags := 25, slot := 16, constantValue := 0 }, { name := "MODE_REWRITTEN", type := .int, accessFlags := 25, slot := 17, constantValue := 0 }, { name := "MAX_TABLES", type := .int, accessFlags := 25, slot := 18, constantValue := 0 }, { name := "MAX_TABLE_COLS", type := .int, accessFlags := 25, slot := 19, constantValue := 0 }, { name := "MAX_NODES", type := .int, accessFlags := 25, slot := 20, constantValue := 0 }, { name := "MAX_WIDTH", type := .int, accessFlags := 25, slot := 21, constantValue := 0 }, { name := "MAX_PENDING", type := .int, accessFlags := 25, slot := 22, constantValue := 0 }, { name := "MAX_ATOMS", type := .int, accessFlags := 25, slot := 23, constantValue := 0 }, { name := "MAX_VIEWS", type := .int, accessFlags := 25, slot := 24, constantValue := 0 }, { name := "MAX_RESULT_ROWS", type := .int, accessFlags := 25, slot := 25, constantValue := 0 }, { name := "tyScan", type := .int, accessFlags := 18, slot := 0, constantValue := 0 }, { name := "tySelect", type := .int, accessFlags := 18, slot := 1, constantValue := 0 }, { name := "tyProject", type := .int, accessFlags := 18, slot := 2, constantValue := 0 }, { name := "tyJoin", type := .int, accessFlags := 18, slot := 3, constantValue := 0 }, { name := "tyView", type := .int, accessFlags := 18, slot := 4, constantValue := 0 }, { name := "plScan", type := .int, accessFlags := 18, slot := 5, constantValue := 0 }, { name := "plJoin", type := .int, accessFlags := 18, slot := 6, constantValue := 0 }, { name := "rowCap", type := .int, accessFlags := 2, slot := 7, constantValue := 0 }, { name := "weightLimit", type := .int, accessFlags := 2, slot := 8, constantValue := 0 }, { name := "tCols", type := (.array .int), accessFlags := 2, slot := 9, constantValue := 0 }, { name := "tRows", type := (.array .int), accessFlags := 2, slot := 10, constantValue := 0 }, { name := "tCells", type := (.array .int), accessFlags := 2, slot := 11, constantValue := 0 }, { name := "pendN", type := .int, accessFlags := 2, slot := 12, constantValue := 0 }, { name := "pOp", type := (.array .int), accessFlags := 2, slot := 13, constantValue := 0 }, { name := "pA", type := (.array .int), accessFlags := 2, slot := 14, constantValue := 0 }, { name := "pB", type := (.array .int), accessFlags := 2, slot := 15, constantValue := 0 }, { name := "pFl", type := (.array .int), accessFlags := 2, slot := 16, constantValue := 0 }, { name := "nodeN", type := .int, accessFlags := 2, slot := 17, constantValue := 0 }, { name := "nType", type := (.array .int), accessFlags := 2, slot := 18, constantValue := 0 }, { name := "nWidth", type := (.array .int), accessFlags := 2, slot := 19, constantValue := 0 }, { name := "nX", type := (.array .int), accessFlags := 2, slot := 20, constantValue := 0 }, { name := "nY", type := (.array .int), accessFlags := 2, slot := 21, constantValue := 0 }, { name := "nKind", type := (.array .int), accessFlags := 2, slot := 22, constantValue := 0 }, { name := "nPacked", type := (.array .int), accessFlags := 2, slot := 23, constantValue := 0 }, { name := "nAtStart", type := (.array .int), accessFlags := 2, slot := 24, constantValue := 0 }, { name := "nAtCnt", type := (.array .int), accessFlags := 2, slot := 25, constantValue := 0 }, { name := "atomN", type := .int, accessFlags := 2, slot := 26, constantValue := 0 }, { name := "aOp", type := (.array .int), accessFlags := 2, slot := 27, constantValue := 0 }, { name := "aA", type := (.array .int), accessFlags := 2, slot := 28, constantValue := 0 }, { name := "aB", type := (.array .int), accessFlags := 2, slot := 29, constantValue := 0 }, { name := "aFl", type := (.array .int), accessFlags := 2, slot := 30, constantValue := 0 }, { name := "viewNode", type := (.array .int), accessFlags := 2, slot := 31, constantValue := 0 }, { name := "weight", type := (.array .int), accessFlags := 2, slot := 32, constantValue := 0 }, { name := "reach", type := (.array .boolean), accessFlags := 2, slot := 33, constantValue := 0 }, { name := "bag", type := (.array .int), accessFlags := 2, slot := 34, constantValue := 0 }, { name := "bagCnt", type := (.array .int), accessFlags := 2, slot := 35, constantValue := 0 }, { name := "rowBuf", type := (.array .int), accessFlags := 2, slot := 36, constantValue := 0 }, { name := "resW", type := .int, accessFlags := 2, slot := 37, constantValue := 0 }, { name := "resN", type := .int, accessFlags := 2, slot := 38, constantValue := 0 }, { name := "res", type := (.array .int), accessFlags := 2, slot := 39, constantValue := 0 }, { name := "planN", type := .int, accessFlags := 2, slot := 40, constantValue := 0 }, { name := "plType", type := (.array .int), accessFlags := 2, slot := 41, constantValue := 0 }, { name := "plTable", type := (.array .int), accessFlags := 2, slot := 42, constantValue := 0 }, { name := "plLeft", type := (.array .int), accessFlags := 2, slot := 43, constantValue := 0 }, { name := "plRight", type := (.array .int), accessFlags := 2, slot := 44, constantValue := 0 }, { name := "plKind", type := (.array .int), accessFlags := 2, slot := 45, constantValue := 0 }, { name := "plLen", type := (.array .int), accessFlags := 2, slot := 46, constantValue := 0 }, { name := "plMap", type := (.array .int), accessFlags := 2, slot := 47, constantValue := 0 }, { name := "needMask", type := (.array .int), accessFlags := 2, slot := 48, constantValue := 0 }, { name := "plEmpty", type := (.array .boolean), accessFlags := 2, slot := 49, constantValue := 0 }, { name := "head", type := (.array .int), accessFlags := 2, slot := 50, constantValue := 0 }, { name := "qN", type := .int, accessFlags := 2, slot := 51, constantValue := 0 }, { name := "qOp", type := (.array .int), accessFlags := 2, slot := 52, constantValue := 0 }, { name := "qA", type := (.array .int), accessFlags := 2, slot := 53, constantValue := 0 }, { name := "qB", type := (.array .int), accessFlags := 2, slot := 54, constantValue := 0 }, { name := "qFl", type := (.array .int), accessFlags := 2, slot := 55, constantValue := 0 }, { name := "qNext", type := (.array .int), accessFlags := 2, slot := 56, constantValue := 0 }, { name := "sp", type := .int, accessFlags := 2, slot := 57, constantValue := 0 }, { name := "stNode", type := (.array .int), accessFlags := 2, slot := 58, constantValue := 0 }, { name := "stPhase", type := (.array .int), accessFlags := 2, slot := 59, constantValue := 0 }, { name := "rsp", type := .int, accessFlags := 2, slot := 60, constantValue := 0 }, { name := "resStack", type := (.array .int), accessFlags := 2, slot := 61, constantValue := 0 }, { name := "buildFail", type := .boolean, accessFlags := 2, slot := 62, constantValue := 0 }, { name := "tmpMap", type := (.array .int), accessFlags := 2, slot := 63, constantValue := 0 }]
  methods := #[k2m0, k2m1, k2m2, k2m3, k2m4, k2m5, k2m6, k2m7, k2m8]
  instanceTypes := #[.int, .int, .int, .int, .int, .int, .int, .int, .int, (.array .int), (.array .int), (.array .int), .int, (.array .int), (.array .int), (.array .int), (.array .int), .int, (.array .int), (.array .int), (.array .int), (.array .int), (.array .int), (.array .int), (.array .int), (.array .int), .int, (.array .int), (.array .int), (.array .int), (.array .int), (.array .int), (.array .int), (.array .boolean), (.array .int), (.array .int), (.array .int), .int, .int, (.array .int), .int, (.array .int), (.array .int), (.array .int), (.array .int), (.array .int), (.array .int), (.array .int), (.array .int), (.array .boolean), (.array .int), .int, (.array .int), (.array .int), (.array .int), (.array .int), (.array .int), .int, (.array .int), (.array .int), .int, (.array .int), .boolean, (.array .int)]
  staticTypes := #[.int, .int, .int, .int, .int, .int, .int, .int, .int, .int, .int, .int, .int, .int, .int, .int, .int, .int, .int, .int, .int, .int, .int, .int, .int, .int]
  resolved := Array.replicate 483 none
  statics := none }

def pool3 : Array CpInfo := pool [(1, u "java/lang/Cloneable"), (0, .class_ 1), (0, u "java/lang/Object"), (0, .class_ 3)] 3

/-- java/lang/Cloneable -/
def k3 : Class := { plain "java/lang/Cloneable" (some 0) with
  accessFlags := 1537
  interfaces := #[]
  cf := some (fileOf pool3 2 #[] #[] 1537 4 #[] #[])
  fields := #[]
  methods := #[]
  instanceTypes := #[]
  staticTypes := #[]
  resolved := Array.replicate 8 none
  statics := none }

def pool4 : Array CpInfo := pool [(1, u "java/io/Serializable"), (0, .class_ 1), (0, u "java/lang/Object"), (0, .class_ 3)] 3

/-- java/io/Serializable -/
def k4 : Class := { plain "java/io/Serializable" (some 0) with
  accessFlags := 1537
  interfaces := #[]
  cf := some (fileOf pool4 2 #[] #[] 1537 4 #[] #[])
  fields := #[]
  methods := #[]
  instanceTypes := #[]
  staticTypes := #[]
  resolved := Array.replicate 8 none
  statics := none }

/-- the primitive boolean -/
def k5 : Class := { plain "boolean" none with kind := .primitive 'Z', accessFlags := 0x411 }
/-- [Z -/
def k6 : Class := { plain "[Z" (some 0) with kind := .array 5 .boolean, interfaces := #[3, 4], accessFlags := 1041 }

/-- the primitive byte -/
def k7 : Class := { plain "byte" none with kind := .primitive 'B', accessFlags := 0x411 }
/-- [B -/
def k8 : Class := { plain "[B" (some 0) with kind := .array 7 .byte, interfaces := #[3, 4], accessFlags := 1041 }

/-- the primitive int -/
def k9 : Class := { plain "int" none with kind := .primitive 'I', accessFlags := 0x411 }
/-- [I -/
def k10 : Class := { plain "[I" (some 0) with kind := .array 9 .int, interfaces := #[3, 4], accessFlags := 1041 }

def heap : Heap := #[]
def classes : Array Class := #[k0, k1, k2, k3, k4, k5, k6, k7, k8, k9, k10]
def interned : List (Array UInt16 × Addr) := []
def slotsUsed : Nat := 0
def theMethod : MethodId := ⟨1, 1⟩
def args0 : Array Value := #[.int 5, .int 20, .int 1, .int 1, .int 1, .int 1]
def aboutOver (below : List Frame) : State where
  vm := { classes := classes, interned := interned.toArray }
  heap := heap
  slotsUsed := slotsUsed
  threads := #[{ frames := .invoking theMethod args0 :: below }]
def below0 : List Frame := [.native { method := ⟨0, 0⟩, args := #[] }]
def about1 : State := aboutOver below0
def p0 : Program := .bare "" "" ""
def e0 : Env := launch0.env 0 0 0
theorem w_frames : about1.frames = Frame.invoking theMethod args0 :: below0 := rfl
set_option maxRecDepth 65536 in
theorem w_args : argsFit about1.vm theMethod args0 = true := by decide +kernel
set_option maxRecDepth 65536 in
theorem w_heap : heapFits about1 = true := by decide +kernel
set_option maxRecDepth 65536 in
theorem w_runnable : about1.curStatus? = some .runnable := by decide +kernel
set_option maxRecDepth 65536 in
theorem w_alone : about1.alone = true := by decide +kernel
set_option maxRecDepth 65536 in
theorem w_named : about1.methodNamed? x = some theMethod := by decide +kernel
set_option maxRecDepth 65536 in
theorem w_hears : about1.hears theMethod below0 = true := by decide +kernel
set_option maxRecDepth 65536 in
theorem w_ripe : about1.ripe theMethod args0 below0 = true := by decide +kernel
theorem w_running : about1.status = .running := rfl
set_option maxRecDepth 65536 in
theorem w_room : about1.hasRoom e0.platform room_1 = true :=
  launch0.hasRoom_least _ room_1 (by decide +kernel) (by decide +kernel) (by decide +kernel) (by decide +kernel) (by decide +kernel) (by decide +kernel)
theorem allAtoms_all (ts : List Jvm.Cond) (a : Array Jvm.Value) (st : Jvm.State) : (allAtoms ts).before a st = ts.all (fun c => c.before a st) := by
  induction ts with
  | nil => rfl
  | cons c t ih =>
    show (Jvm.Cond.and c (allAtoms t)).before a st = _
    rw [Jvm.Cond.before_and, ih, List.all_cons]
def words1 : List Jvm.Cond := Jvm.Cond.code x code maxLocals ret :: tables_1
/-- a 'code' word, met by the world's own term for the bytes: nothing is compared byte by byte -/
theorem code_word {y : MethodName} {bytes : ByteArray} {mx : Nat} {rt : Option FieldType} {a : Array Value} {s : State} {m : MethodId} {meth : Method} {c : Code} (h1 : s.methodNamed? y = some m) (h2 : s.vm.method? m = some meth) (h3 : meth.code = some c) (h4 : c.code = bytes)
    (h5 : (c.maxLocals == mx && c.exceptionTable.isEmpty && decide (c.maxStack ≤ mostOperands) && decide (meth.sig.returnType = rt) && !meth.locks && decide (parseMethodDescriptor y.desc = some meth.sig)) = true) : (Jvm.Cond.code y bytes mx rt).before a s = true := by
  simp only [Bool.and_eq_true, beq_iff_eq, Bool.not_eq_true', decide_eq_true_eq] at h5
  obtain ⟨⟨⟨⟨⟨g1, g2⟩, g3⟩, g4⟩, g5⟩, g6⟩ := h5
  simp [Cond.before, Cond.holds, Cond.value, h1, h2, h3, h4, g1, g2, g3, g4, g5, g6]
def isCode : Jvm.Cond → Bool
  | .code _ _ _ _ => true
  | _ => false
theorem all_split {L : List Jvm.Cond} {P : Jvm.Cond → Bool} (h1 : L.all (fun c => isCode c || P c) = true) (h2 : ∀ c ∈ L.filter isCode, P c = true) : L.all P = true := by
  refine List.all_eq_true.mpr fun c hc => ?_
  have h := List.all_eq_true.mp h1 c hc
  rcases Bool.eq_false_or_eq_true (isCode c) with hi | hi
  · exact h2 c (List.mem_filter.mpr ⟨hc, hi⟩)
  · simpa [hi] using h
set_option maxRecDepth 65536 in
theorem w_c0 : (Jvm.Cond.code x code maxLocals ret).before args0 about1 = true := code_word (m := ⟨1, 1⟩) (meth := k1m1) (c := k1c1) (by decide +kernel) rfl rfl rfl (by decide +kernel)
set_option maxRecDepth 65536 in
theorem w_c1 : (Jvm.Cond.code ({ cls := "QueryRewriter", name := "<init>", desc := "(II)V" } : Jvm.MethodName) prog_1_method_1_code (3 : Nat) (Option.none : Option Jvm.ClassFile.FieldType)).before args0 about1 = true := code_word (m := ⟨2, 0⟩) (meth := k2m0) (c := k2c0) (by decide +kernel) rfl rfl rfl (by decide +kernel)
set_option maxRecDepth 65536 in
theorem w_c2 : (Jvm.Cond.code ({ cls := "java/lang/Object", name := "<init>", desc := "()V" } : Jvm.MethodName) object_method_1_code (1 : Nat) (Option.none : Option Jvm.ClassFile.FieldType)).before args0 about1 = true := code_word (m := ⟨0, 0⟩) (meth := k0m0) (c := k0c0) (by decide +kernel) rfl rfl rfl (by decide +kernel)
set_option maxRecDepth 65536 in
theorem w_c3 : (Jvm.Cond.code ({ cls := "QueryRewriter", name := "clamp", desc := "(III)I" } : Jvm.MethodName) prog_1_method_2_code (4 : Nat) (Option.some Jvm.ClassFile.FieldType.int)).before args0 about1 = true := code_word (m := ⟨2, 1⟩) (meth := k2m1) (c := k2c1) (by decide +kernel) rfl rfl rfl (by decide +kernel)
set_option maxRecDepth 65536 in
theorem w_c4 : (Jvm.Cond.code ({ cls := "QueryRewriter", name := "resultWidth", desc := "()I" } : Jvm.MethodName) prog_1_method_22_code (1 : Nat) (Option.some Jvm.ClassFile.FieldType.int)).before args0 about1 = true := code_word (m := ⟨2, 7⟩) (meth := k2m7) (c := k2c7) (by decide +kernel) rfl rfl rfl (by decide +kernel)
set_option maxRecDepth 65536 in
theorem w_c5 : (Jvm.Cond.code ({ cls := "QueryRewriter", name := "resultCell", desc := "(II)I" } : Jvm.MethodName) prog_1_method_23_code (3 : Nat) (Option.some Jvm.ClassFile.FieldType.int)).before args0 about1 = true := code_word (m := ⟨2, 8⟩) (meth := k2m8) (c := k2c8) (by decide +kernel) rfl rfl rfl (by decide +kernel)
set_option maxRecDepth 65536 in
theorem w_c6 : (Jvm.Cond.code ({ cls := "QueryRewriter", name := "tableRows", desc := "(I)I" } : Jvm.MethodName) prog_1_method_7_code (2 : Nat) (Option.some Jvm.ClassFile.FieldType.int)).before args0 about1 = true := code_word (m := ⟨2, 4⟩) (meth := k2m4) (c := k2c4) (by decide +kernel) rfl rfl rfl (by decide +kernel)
set_option maxRecDepth 65536 in
theorem w_c7 : (Jvm.Cond.code ({ cls := "QueryRewriter", name := "tableExists", desc := "(I)Z" } : Jvm.MethodName) prog_1_method_4_code (2 : Nat) (Option.some Jvm.ClassFile.FieldType.boolean)).before args0 about1 = true := code_word (m := ⟨2, 3⟩) (meth := k2m3) (c := k2c3) (by decide +kernel) rfl rfl rfl (by decide +kernel)
set_option maxRecDepth 65536 in
theorem w_c8 : (Jvm.Cond.code ({ cls := "QueryRewriter", name := "nodeWidth", desc := "(I)I" } : Jvm.MethodName) prog_1_method_20_code (2 : Nat) (Option.some Jvm.ClassFile.FieldType.int)).before args0 about1 = true := code_word (m := ⟨2, 6⟩) (meth := k2m6) (c := k2c6) (by decide +kernel) rfl rfl rfl (by decide +kernel)
set_option maxRecDepth 65536 in
theorem w_c9 : (Jvm.Cond.code ({ cls := "QueryRewriter", name := "nodeExists", desc := "(I)Z" } : Jvm.MethodName) prog_1_method_12_code (2 : Nat) (Option.some Jvm.ClassFile.FieldType.boolean)).before args0 about1 = true := code_word (m := ⟨2, 5⟩) (meth := k2m5) (c := k2c5) (by decide +kernel) rfl rfl rfl (by decide +kernel)
set_option maxRecDepth 65536 in
theorem w_c10 : (Jvm.Cond.code ({ cls := "QueryRewriter", name := "createTable", desc := "(II)Z" } : Jvm.MethodName) prog_1_method_3_code (3 : Nat) (Option.some Jvm.ClassFile.FieldType.boolean)).before args0 about1 = true := code_word (m := ⟨2, 2⟩) (meth := k2m2) (c := k2c2) (by decide +kernel) rfl rfl rfl (by decide +kernel)
def codes1 : List Jvm.Cond := [Jvm.Cond.code x code maxLocals ret, Jvm.Cond.code ({ cls := "QueryRewriter", name := "<init>", desc := "(II)V" } : Jvm.MethodName) prog_1_method_1_code (3 : Nat) (Option.none : Option Jvm.ClassFile.FieldType), Jvm.Cond.code ({ cls := "java/lang/Object", name := "<init>", desc := "()V" } : Jvm.MethodName) object_method_1_code (1 : Nat) (Option.none : Option Jvm.ClassFile.FieldType), Jvm.Cond.code ({ cls := "QueryRewriter", name := "clamp", desc := "(III)I" } : Jvm.MethodName) prog_1_method_2_code (4 : Nat) (Option.some Jvm.ClassFile.FieldType.int), Jvm.Cond.code ({ cls := "QueryRewriter", name := "resultWidth", desc := "()I" } : Jvm.MethodName) prog_1_method_22_code (1 : Nat) (Option.some Jvm.ClassFile.FieldType.int), Jvm.Cond.code ({ cls := "QueryRewriter", name := "resultCell", desc := "(II)I" } : Jvm.MethodName) prog_1_method_23_code (3 : Nat) (Option.some Jvm.ClassFile.FieldType.int), Jvm.Cond.code ({ cls := "QueryRewriter", name := "tableRows", desc := "(I)I" } : Jvm.MethodName) prog_1_method_7_code (2 : Nat) (Option.some Jvm.ClassFile.FieldType.int), Jvm.Cond.code ({ cls := "QueryRewriter", name := "tableExists", desc := "(I)Z" } : Jvm.MethodName) prog_1_method_4_code (2 : Nat) (Option.some Jvm.ClassFile.FieldType.boolean), Jvm.Cond.code ({ cls := "QueryRewriter", name := "nodeWidth", desc := "(I)I" } : Jvm.MethodName) prog_1_method_20_code (2 : Nat) (Option.some Jvm.ClassFile.FieldType.int), Jvm.Cond.code ({ cls := "QueryRewriter", name := "nodeExists", desc := "(I)Z" } : Jvm.MethodName) prog_1_method_12_code (2 : Nat) (Option.some Jvm.ClassFile.FieldType.boolean), Jvm.Cond.code ({ cls := "QueryRewriter", name := "createTable", desc := "(II)Z" } : Jvm.MethodName) prog_1_method_3_code (3 : Nat) (Option.some Jvm.ClassFile.FieldType.boolean)]
set_option maxRecDepth 65536 in
theorem codes_eq : words1.filter isCode = codes1 := rfl
theorem w_codes : ∀ c ∈ words1.filter isCode, c.before args0 about1 = true := by
  rw [codes_eq]
  intro c hc
  simp only [codes1, List.mem_cons, List.not_mem_nil, or_false] at hc
  rcases hc with rfl | rfl | rfl | rfl | rfl | rfl | rfl | rfl | rfl | rfl | rfl
  · exact w_c0
  · exact w_c1
  · exact w_c2
  · exact w_c3
  · exact w_c4
  · exact w_c5
  · exact w_c6
  · exact w_c7
  · exact w_c8
  · exact w_c9
  · exact w_c10
set_option maxRecDepth 65536 in
theorem w_t1 : (words1.take 24).all (fun c => isCode c || c.before args0 about1) = true := by decide +kernel
set_option maxRecDepth 65536 in
theorem w_t2 : ((words1.drop 24).take 24).all (fun c => isCode c || c.before args0 about1) = true := by decide +kernel
set_option maxRecDepth 65536 in
theorem w_t3 : (((words1.drop 24).drop 24).take 24).all (fun c => isCode c || c.before args0 about1) = true := by decide +kernel
set_option maxRecDepth 65536 in
theorem w_t4 : ((((words1.drop 24).drop 24).drop 24).take 24).all (fun c => isCode c || c.before args0 about1) = true := by decide +kernel
set_option maxRecDepth 65536 in
theorem w_t5 : (((((words1.drop 24).drop 24).drop 24).drop 24).take 24).all (fun c => isCode c || c.before args0 about1) = true := by decide +kernel
set_option maxRecDepth 65536 in
theorem w_t6 : ((((((words1.drop 24).drop 24).drop 24).drop 24).drop 24).take 24).all (fun c => isCode c || c.before args0 about1) = true := by decide +kernel
set_option maxRecDepth 65536 in
theorem w_t7 : ((((((words1.drop 24).drop 24).drop 24).drop 24).drop 24).drop 24).all (fun c => isCode c || c.before args0 about1) = true := by decide +kernel
theorem w_tables : (allAtoms (Jvm.Cond.code x code maxLocals ret :: tables_1)).before args0 about1 = true := by
  rw [allAtoms_all]
  show words1.all (fun c => c.before args0 about1) = true
  refine all_split ?_ w_codes
  rw [← List.take_append_drop 24 words1, List.all_append, w_t1, ← List.take_append_drop 24 (words1.drop 24), List.all_append, w_t2, ← List.take_append_drop 24 ((words1.drop 24).drop 24), List.all_append, w_t3, ← List.take_append_drop 24 (((words1.drop 24).drop 24).drop 24), List.all_append, w_t4, ← List.take_append_drop 24 ((((words1.drop 24).drop 24).drop 24).drop 24), List.all_append, w_t5, ← List.take_append_drop 24 (((((words1.drop 24).drop 24).drop 24).drop 24).drop 24), List.all_append, w_t6, w_t7]
  rfl
set_option maxRecDepth 65536 in
theorem w_case : (Jvm.Cond.and given_1 narrow_1).before args0 about1 = true := by decide +kernel
theorem w_applies : (headSpec (Jvm.Cond.code x code maxLocals ret :: tables_1) room_1).applies x e0.platform about1 = true :=
  (Spec.applies_iff w_frames).mpr ⟨w_running, w_runnable, w_alone, w_named, w_hears, w_ripe, w_room, w_tables⟩
theorem atStart : AtStart classFile x code maxLocals ret World_1 tables_1 room_1 Calls_1 rest_1 Pre_1 launch0 p0 e0 about1 theMethod args0 below0 :=
  ⟨lists_1, trivial, launch0.admits_env _ _ _, launch0.least_env, fairChoices_fair.cas, fairChoices_fair.clock, w_frames, w_args, w_heap, w_applies, trivial, trivial, w_case⟩
end start1
theorem witness_1 : WitnessClaimed_1 := ⟨start1.p0, start1.e0, start1.about1, start1.theMethod, start1.args0, start1.below0, start1.atStart⟩
end Jvm.Pilot.@@N@@
