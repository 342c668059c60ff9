import JvmDerived
import JvmDerived.Pilot.@@N@@Statement
import JvmDerived.Pilot.@@N@@Code
set_option linter.unusedVariables false
set_option linter.unusedSimpArgs false
namespace Jvm.RoadKit
open Sem ClassFile Op Lib Jvm.Stand Jvm.Free Jvm.LawKit
section New
variable {p : Program} {l : Launch} {e : Env} {R : Room} {s : State} {m : MethodId} {args : Array Value} {below : List Frame} {meth : Method} {c : Code} {T : State} {locs : List Loc} {cells slots : Nat}
theorem retI (X : Stand p l e R s m args below meth c T locs cells slots) (hx : p.tables.exec = Jvm.exec) {pc : Nat} {Ls : Array Slot} {z : Int32} {rest : List Value} (hret : meth.sig.returnType = some .int) (hd : decode c.code pc = .ok (.ireturn, 1)) {fs : List Frame}
    (hl : ∀ (f : JFrame) (acts : List Action), f.method = m → f.locked = none → f.entered = [] → (doReturn e (T.setTop f) acts (some (.int z))).1 = T.setFrames fs) : Steps p.tables e below (T.setTop (mkF m pc Ls (.int z :: rest))) (T.setFrames fs) := by
  have hm' : T.vm.method? m = some meth := X.method'
  have hn : narrow .int (.int z) = .int z := rfl
  show Steps p.tables e below (T.setTop { method := m, pc := pc, locals := Ls, stack := _ :: rest, locked := none }) _
  jvm_step X.here [X.here.top, hx, hd, hm', hret, hn]
  first | (intro acts; rw [hl _ acts rfl rfl rfl]) | rw [hl _ _ rfl rfl rfl]
  exact Steps.refl _
end New
end Jvm.RoadKit
namespace Jvm.Pilot.@@N@@
open Jvm Jvm.ClassFile Sem Op Lib Jvm.Free Jvm.Stand Jvm.LawKit Jvm.RoadKit Bundle Jvm.Pilot.@@N@@.Jvm.D
/- records: scalars, int-like arrays, long arrays -/
abbrev Rec : Type := (Nat → Int32) × (Nat → Int32 → Int32) × (Nat → Int32 → Int64)
def zrec : Rec := (fun _ => 0, fun _ _ => 0, fun _ _ => 0)
def gI (ob : Rec) (k : Nat) : Int32 := ob.1 k
def gA (ob : Rec) (k : Nat) (i : Int32) : Int32 := ob.2.1 k i
def gJ (ob : Rec) (k : Nat) (i : Int32) : Int64 := ob.2.2 k i
def sI (ob : Rec) (k : Nat) (v : Int32) : Rec := (fun j => if j = k then v else ob.1 j, ob.2)
def sA (ob : Rec) (k : Nat) (i v : Int32) : Rec := (ob.1, fun j x => if j = k ∧ x = i then v else ob.2.1 j x, ob.2.2)
def sJ (ob : Rec) (k : Nat) (i : Int32) (v : Int64) : Rec := (ob.1, ob.2.1, fun j x => if j = k ∧ x = i then v else ob.2.2 j x)
def chk {γ : Type} (n i : Int32) (A : Option γ) : Option γ := if i < 0 then none else if i < n then A else none
def dvz {γ : Type} (y : Int32) (A : Option γ) : Option γ := if y = 0 then none else A
def bind2 {α β γ : Type} (o : Option (α × β)) (f : α → β → Option γ) : Option γ := o.bind fun q => f q.1 q.2
def bind3 {α β γ δ : Type} (o : Option (α × β × δ)) (f : α → β → δ → Option γ) : Option γ := o.bind fun q => f q.1 q.2.1 q.2.2
theorem ite_el {c : Prop} [Decidable c] {γ : Type} {A B : Option γ} {r : γ} {Q : Prop} (h : (if c then A else B) = some r) (t : c → A = some r → Q) (e : ¬ c → B = some r → Q) : Q := by
  by_cases hc : c
  · rw [if_pos hc] at h; exact t hc h
  · rw [if_neg hc] at h; exact e hc h
theorem bind_el {α γ : Type} {o : Option α} {f : α → Option γ} {r : γ} {Q : Prop} (h : o.bind f = some r) (k : ∀ x, o = some x → f x = some r → Q) : Q := by
  cases o with
  | none => cases h
  | some x => exact k x rfl h
theorem bind2_el {α β γ : Type} {o : Option (α × β)} {f : α → β → Option γ} {r : γ} {Q : Prop} (h : bind2 o f = some r) (k : ∀ x y, o = some (x, y) → f x y = some r → Q) : Q := by
  rcases o with _ | ⟨x, y⟩
  · cases h
  · exact k x y rfl h
theorem bind3_el {α β γ δ : Type} {o : Option (α × β × δ)} {f : α → β → δ → Option γ} {r : γ} {Q : Prop} (h : bind3 o f = some r) (k : ∀ x y z, o = some (x, y, z) → f x y z = some r → Q) : Q := by
  rcases o with _ | ⟨x, y, z⟩
  · cases h
  · exact k x y z rfl h
theorem chk_el {γ : Type} {n i : Int32} {A : Option γ} {r : γ} {Q : Prop} (h : chk n i A = some r) (k : (¬ i < 0 ∧ i < n) → A = some r → Q) : Q := by
  unfold chk at h
  by_cases h0 : i < 0
  · rw [if_pos h0] at h; cases h
  · rw [if_neg h0] at h
    by_cases h1 : i < n
    · rw [if_pos h1] at h; exact k ⟨h0, h1⟩ h
    · rw [if_neg h1] at h; cases h
theorem dvz_el {γ : Type} {y : Int32} {A : Option γ} {r : γ} {Q : Prop} (h : dvz y A = some r) (k : y ≠ 0 → A = some r → Q) : Q := by
  unfold dvz at h
  by_cases h0 : y = 0
  · rw [if_pos h0] at h; cases h
  · rw [if_neg h0] at h; exact k h0 h
def All {α : Type} (p : α → Prop) : List α → Prop
  | [] => True
  | x :: l => p x ∧ All p l
theorem All.mem {α : Type} {p : α → Prop} : ∀ {l : List α}, All p l → ∀ {x : α}, x ∈ l → p x
  | [], _, _, h => nomatch h
  | _ :: _, H, _, h => (List.mem_cons.mp h).elim (fun e => e ▸ H.1) (fun e => All.mem H.2 e)
def el (ty : FieldType) (ob : Rec) (k : Nat) (j : Int32) : Value := match ty with
  | .long => .long (ob.2.2 k j)
  | _ => .int (ob.2.1 k j)
def aD (ty : FieldType) : String := match ty with
  | .int => "[I"
  | .boolean => "[Z"
  | _ => "[J"
abbrev Cls : Type := String × List (String × String) × List (String × FieldType × Int32)
abbrev mem1 (k : Nat) {d : Jvm.Cond} (h : tables_1[k]? = some d) : d ∈ tables_1 := List.mem_of_getElem? h
abbrev sOk (C : String) (nd : String × String) : Prop := (Jvm.Cond.lays C C nd.1 nd.2 ∈ tables_1 ∨ Jvm.Cond.laysFinal C C nd.1 nd.2 ∈ tables_1) ∧ (nd.2 = "I" ∨ nd.2 = "Z")
abbrev aOk (C : String) (t : String × FieldType × Int32) : Prop := (Jvm.Cond.lays C C t.1 (aD t.2.1) ∈ tables_1 ∨ Jvm.Cond.laysFinal C C t.1 (aD t.2.1) ∈ tables_1) ∧ (t.2.1 = .int ∨ t.2.1 = .boolean ∨ t.2.1 = .long) ∧ ¬ t.2.2 < 0
def K : Cls := ("XorGaussSat", [("n", "I"), ("fullMask", "I"), ("status", "I"), ("model", "I"), ("pendLen", "I"), ("clauseCnt", "I"), ("xorCnt", "I"), ("orderLen", "I"), ("echRank", "I"), ("echConsistent", "Z"), ("echValid", "Z"), ("gRows", "I"), ("gRank", "I"), ("asgMask", "I"), ("asgVals", "I"), ("trailLen", "I"), ("lvlCnt", "I"), ("found", "I")], [("pendVar", .int, 8), ("pendNeg", .boolean, 8), ("clausePos", .int, 24), ("clauseNeg", .int, 24), ("xorMask", .int, 16), ("xorRhs", .int, 16), ("order", .int, 40), ("echMask", .int, 16), ("echRhs", .int, 16), ("echPivot", .int, 16), ("gMask", .int, 16), ("gRhs", .int, 16), ("gPivot", .int, 16), ("trail", .int, 12), ("lvlVar", .int, 13), ("lvlStart", .int, 13), ("lvlFlipped", .boolean, 13)])
theorem kS : All (sOk K.1) K.2.1 := ⟨⟨Or.inl (mem1 46 rfl), Or.inl rfl⟩, ⟨Or.inl (mem1 48 rfl), Or.inl rfl⟩, ⟨Or.inl (mem1 50 rfl), Or.inl rfl⟩, ⟨Or.inl (mem1 52 rfl), Or.inl rfl⟩, ⟨Or.inl (mem1 54 rfl), Or.inl rfl⟩, ⟨Or.inl (mem1 56 rfl), Or.inl rfl⟩, ⟨Or.inl (mem1 58 rfl), Or.inl rfl⟩, ⟨Or.inl (mem1 60 rfl), Or.inl rfl⟩, ⟨Or.inl (mem1 66 rfl), Or.inl rfl⟩, ⟨Or.inl (mem1 64 rfl), Or.inr rfl⟩, ⟨Or.inl (mem1 62 rfl), Or.inr rfl⟩, ⟨Or.inl (mem1 112 rfl), Or.inl rfl⟩, ⟨Or.inl (mem1 118 rfl), Or.inl rfl⟩, ⟨Or.inl (mem1 140 rfl), Or.inl rfl⟩, ⟨Or.inl (mem1 142 rfl), Or.inl rfl⟩, ⟨Or.inl (mem1 144 rfl), Or.inl rfl⟩, ⟨Or.inl (mem1 146 rfl), Or.inl rfl⟩, ⟨Or.inl (mem1 148 rfl), Or.inl rfl⟩, trivial⟩
theorem kA : All (aOk K.1) K.2.2 := ⟨⟨Or.inr (mem1 11 rfl), Or.inl rfl, by decide⟩, ⟨Or.inr (mem1 14 rfl), Or.inr (Or.inl rfl), by decide⟩, ⟨Or.inr (mem1 16 rfl), Or.inl rfl, by decide⟩, ⟨Or.inr (mem1 18 rfl), Or.inl rfl, by decide⟩, ⟨Or.inr (mem1 20 rfl), Or.inl rfl, by decide⟩, ⟨Or.inr (mem1 22 rfl), Or.inl rfl, by decide⟩, ⟨Or.inr (mem1 24 rfl), Or.inl rfl, by decide⟩, ⟨Or.inr (mem1 26 rfl), Or.inl rfl, by decide⟩, ⟨Or.inr (mem1 28 rfl), Or.inl rfl, by decide⟩, ⟨Or.inr (mem1 30 rfl), Or.inl rfl, by decide⟩, ⟨Or.inr (mem1 32 rfl), Or.inl rfl, by decide⟩, ⟨Or.inr (mem1 34 rfl), Or.inl rfl, by decide⟩, ⟨Or.inr (mem1 36 rfl), Or.inl rfl, by decide⟩, ⟨Or.inr (mem1 38 rfl), Or.inl rfl, by decide⟩, ⟨Or.inr (mem1 40 rfl), Or.inl rfl, by decide⟩, ⟨Or.inr (mem1 42 rfl), Or.inl rfl, by decide⟩, ⟨Or.inr (mem1 44 rfl), Or.inr (Or.inl rfl), by decide⟩, trivial⟩
abbrev kN : Nat := 35
theorem kI : Jvm.Cond.instantiable K.1 kN ∈ tables_1 := mem1 1 rfl
theorem kZ : Jvm.Cond.initialized K.1 ∈ tables_1 := mem1 2 rfl
theorem kNm : (K.2.1.map (·.1) ++ K.2.2.map (·.1)).Nodup := by decide +kernel
theorem nm_ss {k k' : Nat} {nd nd' : String × String} (h : K.2.1[k]? = some nd) (h' : K.2.1[k']? = some nd') (ne : k ≠ k') : nd.1 ≠ nd'.1 := fun e => by
  have l := (List.getElem?_eq_some_iff.mp h).1
  have l' := (List.getElem?_eq_some_iff.mp h').1
  refine ne ((List.getElem?_inj (l := K.2.1.map (·.1) ++ K.2.2.map (·.1)) (i := k) (j := k') (by simp; omega) kNm).mp ?_)
  rw [List.getElem?_append_left (by simpa using l), List.getElem?_append_left (by simpa using l'), List.getElem?_map, List.getElem?_map, h, h']
  simp [e]
theorem nm_aa {k k' : Nat} {t t' : String × FieldType × Int32} (h : K.2.2[k]? = some t) (h' : K.2.2[k']? = some t') (ne : k ≠ k') : t.1 ≠ t'.1 := fun e => by
  have l := (List.getElem?_eq_some_iff.mp h).1
  have l' := (List.getElem?_eq_some_iff.mp h').1
  have q := (List.getElem?_inj (l := K.2.1.map (·.1) ++ K.2.2.map (·.1)) (i := K.2.1.length + k) (j := K.2.1.length + k') (by simp; omega) kNm).mp (by
    rw [List.getElem?_append_right (by simp), List.getElem?_append_right (by simp)]
    simp [h, h', e])
  omega
theorem nm_sa {k k' : Nat} {nd : String × String} {t : String × FieldType × Int32} (h : K.2.1[k]? = some nd) (h' : K.2.2[k']? = some t) : nd.1 ≠ t.1 := fun e => by
  have l := (List.getElem?_eq_some_iff.mp h).1
  have l' := (List.getElem?_eq_some_iff.mp h').1
  have q := (List.getElem?_inj (l := K.2.1.map (·.1) ++ K.2.2.map (·.1)) (i := k) (j := K.2.1.length + k') (by simp; omega) kNm).mp (by
    rw [List.getElem?_append_left (by simpa using l), List.getElem?_append_right (by simp)]
    simp [h, h', e])
  omega
abbrev Ctx : Type := Launch × State × Nat × Array Value
def Ok (C : Ctx) : Prop := ∀ d ∈ tables_1, d.before C.2.2.2 C.2.1 = true
def ArrAt (Z : State) (h : Heap) (b : Nat) (ty : FieldType) (len : Int32) (v : Int32 → Value) : Prop := ∃ cl : Cell, Arr Z h b cl ty ∧ cl.slots.size = len.toNatClampNeg ∧ ∀ j : Int32, ¬ j < 0 → j < len → cl.slots[j.toNatClampNeg]? = some (v j)
def ObjAt (Z : State) (h : Heap) (a : Nat) (q : Nat) (ob : Rec) : Prop :=
  Exa Z h a K.1 ∧ (∀ k nd, K.2.1[k]? = some nd → Fld Z h a K.1 nd.1 nd.2 (.int (ob.1 k))) ∧
  (∀ k t, K.2.2[k]? = some t → k < q → Fld Z h a K.1 t.1 (aD t.2.1) (.ref (a + 1 + k)) ∧ ArrAt Z h (a + 1 + k) t.2.1 t.2.2 (el t.2.1 ob k)) ∧
  (∀ k t, K.2.2[k]? = some t → q ≤ k → Fld Z h a K.1 t.1 (aD t.2.1) .null)
abbrev AH : Type := Nat × List (Nat × Nat × Rec)
def Rep (Z : State) (n0 : Nat) (h : Heap) (G : AH) : Prop :=
  h.size = G.1 ∧ Old Z n0 h ∧ (∀ x ∈ G.2, n0 ≤ x.1 ∧ x.1 + x.2.1 < G.1 ∧ ObjAt Z h x.1 x.2.1 x.2.2) ∧ G.2.Pairwise (fun x y => x.1 + x.2.1 < y.1 ∨ y.1 + y.2.1 < x.1)
section Facts
variable {Z : State} {h h' : Heap} {a b : Nat} {q k n0 top : Nat} {ob ob' : Rec} {nd : String × String} {t : String × FieldType × Int32} {a0 : Array Value} {sl : Nat} {v : Value} {H : List (Nat × Nat × Rec)} {G : AH}
theorem fld_fr {C n d : String} (e : h'[a]? = h[a]?) (F : Fld Z h a C n d v) : Fld Z h' a C n d v := by
  obtain ⟨cell, cf, k, i, f, h1, r⟩ := F; exact ⟨cell, cf, k, i, f, e.trans h1, r⟩
theorem exa_fr {C : String} (e : h'[a]? = h[a]?) (F : Exa Z h a C) : Exa Z h' a C := by
  obtain ⟨cell, k, h1, r⟩ := F; exact ⟨cell, k, e.trans h1, r⟩
theorem arrAt_fr {ty : FieldType} {len : Int32} {w : Int32 → Value} (e : h'[a]? = h[a]?) (F : ArrAt Z h a ty len w) : ArrAt Z h' a ty len w := by
  obtain ⟨cl, A, r⟩ := F; exact ⟨cl, ⟨e.trans A.1, A.2⟩, r⟩
theorem ObjAt.frame (e : ∀ b, a ≤ b → b ≤ a + q → h'[b]? = h[b]?) (F : ObjAt Z h a q ob) : ObjAt Z h' a q ob := by
  have e0 := e a (Nat.le_refl _) (Nat.le_add_right _ _)
  refine ⟨exa_fr e0 F.1, fun k nd hk => fld_fr e0 (F.2.1 k nd hk), fun k t hk hq => ⟨fld_fr e0 (F.2.2.1 k t hk hq).1, arrAt_fr (e _ (by omega) (by omega)) (F.2.2.1 k t hk hq).2⟩, fun k t hk hq => fld_fr e0 (F.2.2.2 k t hk hq)⟩
theorem ObjAt.ext (E : Ext h h') (F : ObjAt Z h a q ob) : ObjAt Z h' a q ob := by
  refine ⟨F.1.ext E, fun k nd hk => (F.2.1 k nd hk).ext E, fun k t hk hq => ⟨(F.2.2.1 k t hk hq).1.ext E, ?_⟩, fun k t hk hq => (F.2.2.2 k t hk hq).ext E⟩
  obtain ⟨cl, A, r⟩ := (F.2.2.1 k t hk hq).2; exact ⟨cl, A.ext E, r⟩
theorem wr_ne (W : Wr h h' a sl v) (ne : b ≠ a) : h'[b]? = h[b]? := by
  obtain ⟨cell, -, -, -, rfl⟩ := W; exact Array.getElem?_setIfInBounds_ne (Ne.symm ne)
theorem laidS (hw : ∀ d ∈ tables_1, d.before a0 Z = true) (hk : K.2.1[k]? = some nd) : Laid Z a0 K.1 K.1 nd.1 nd.2 := ((All.mem kS (List.mem_of_getElem? hk)).1).imp (hw _) (hw _)
theorem laidA (hw : ∀ d ∈ tables_1, d.before a0 Z = true) (hk : K.2.2[k]? = some t) : Laid Z a0 K.1 K.1 t.1 (aD t.2.1) := ((All.mem kA (List.mem_of_getElem? hk)).1).imp (hw _) (hw _)
theorem pfS (hk : K.2.1[k]? = some nd) : ∃ ty, parseFieldDescriptor nd.2 = some ty := by
  rcases (All.mem kS (List.mem_of_getElem? hk)).2 with e | e <;> rw [e]
  · exact ⟨.int, by decide⟩
  · exact ⟨.boolean, by decide⟩
theorem pfA (hk : K.2.2[k]? = some t) : parseFieldDescriptor (aD t.2.1) = some (.array t.2.1) := by
  rcases (All.mem kA (List.mem_of_getElem? hk)).2.1 with e | e | e <;> rw [e] <;> decide
theorem ObjAt.putI {x : Int32} (hw : ∀ d ∈ tables_1, d.before a0 Z = true) (F : ObjAt Z h a q ob) (hk : K.2.1[k]? = some nd) (W : Wr h h' a (Jvm.RoadKit.slotOf Z K.1 nd.1 nd.2) (.int x)) : ObjAt Z h' a q (sI ob k x) := by
  obtain ⟨ty, hty⟩ := pfS hk
  refine ⟨F.1.wr W, fun k' nd' hk' => ?_, fun k' t hk' hq => ⟨(F.2.2.1 k' t hk' hq).1.other W (Or.inr (Jvm.RoadKit.slot_ne (laidA hw hk') (laidS hw hk) (Ne.symm (nm_sa hk hk')) (pfA hk') hty)), ?_⟩, fun k' t hk' hq => (F.2.2.2 k' t hk' hq).other W (Or.inr (Jvm.RoadKit.slot_ne (laidA hw hk') (laidS hw hk) (Ne.symm (nm_sa hk hk')) (pfA hk') hty))⟩
  · by_cases e : k' = k
    · subst e; cases hk.symm.trans hk'
      have := (F.2.1 k' nd hk).same W
      simpa [sI] using this
    · obtain ⟨ty', hty'⟩ := pfS hk'
      have := (F.2.1 k' nd' hk').other W (Or.inr (Jvm.RoadKit.slot_ne (laidS hw hk') (laidS hw hk) (nm_ss hk' hk e) hty' hty))
      simpa [sI, e] using this
  · have := arrAt_fr (wr_ne W (by omega)) (F.2.2.1 k' t hk' hq).2
    have e : el t.2.1 (sI ob k x) k' = el t.2.1 ob k' := by funext j; unfold el; split <;> rfl
    rw [e]; exact this
theorem ObjAt.putA (F : ObjAt Z h a q ob) (hk : K.2.2[k]? = some t) (hq : k < q) {x : Value} {j : Int32} (hj : ¬ j < 0 ∧ j < t.2.2) (W : Wr h h' (a + 1 + k) j.toNatClampNeg x)
    (e1 : el t.2.1 ob' k = fun i => if i = j then x else el t.2.1 ob k i) (e2 : ∀ k' t', k' ≠ k → el t' ob' k' = el t' ob k') (e3 : ob'.1 = ob.1) : ObjAt Z h' a q ob' := by
  have u : h'[a]? = h[a]? := wr_ne W (by omega)
  refine ⟨exa_fr u F.1, fun k' nd hk' => by rw [e3]; exact fld_fr u (F.2.1 k' nd hk'), fun k' t' hk' hq' => ⟨fld_fr u (F.2.2.1 k' t' hk' hq').1, ?_⟩, fun k' t' hk' hq' => fld_fr u (F.2.2.2 k' t' hk' hq')⟩
  by_cases e : k' = k
  · subst e; cases hk.symm.trans hk'
    obtain ⟨cl, A, S, V⟩ := (F.2.2.1 k' t hk hq).2
    have inb : ¬ (j < 0 ∨ cl.slots.size ≤ j.toNatClampNeg) := inb_of S hj
    refine ⟨_, A.same W, by rw [sz_set]; exact S, fun i h0 h1 => ?_⟩
    rw [e1]
    by_cases ei : i = j
    · simp only [ei, if_true]; exact get_hit inb rfl
    · simp only [ei, if_false]; rw [get_miss hj.1 h0 ei]; exact V i h0 h1
  · rw [e2 k' _ e]; exact arrAt_fr (wr_ne W (by omega)) (F.2.2.1 k' t' hk' hq').2
theorem el_sA {ty : FieldType} (ht : ty ≠ .long) (j x : Int32) : el ty (sA ob k j x) k = fun i => if i = j then .int x else el ty ob k i := by
  funext i; cases ty <;> first | exact absurd rfl ht | (simp only [el, sA, true_and]; split <;> rfl)
theorem el_sJ (j : Int32) (x : Int64) : el .long (sJ ob k j x) k = fun i => if i = j then .long x else el .long ob k i := by
  funext i; simp only [el, sJ, true_and]; split <;> rfl
theorem el_sA' (j x : Int32) (k' : Nat) (t' : FieldType) (ne : k' ≠ k) : el t' (sA ob k j x) k' = el t' ob k' := by
  funext i; cases t' <;> simp [el, sA, ne]
theorem el_sJ' (j : Int32) (x : Int64) (k' : Nat) (t' : FieldType) (ne : k' ≠ k) : el t' (sJ ob k j x) k' = el t' ob k' := by
  funext i; cases t' <;> simp [el, sJ, ne]
theorem Rep.upd (R : Rep Z n0 h (top, (a, q, ob) :: H)) (hs : h'.size = h.size) (hO : Old Z n0 h') (e : ∀ b, (b < a ∨ a + q < b) → h'[b]? = h[b]?) (F : ObjAt Z h' a q ob') : Rep Z n0 h' (top, (a, q, ob') :: H) := by
  obtain ⟨r1, r2, r3, r4⟩ := R
  refine ⟨hs.trans r1, hO, fun x hx => ?_, ?_⟩
  · rcases List.mem_cons.mp hx with rfl | hx
    · exact ⟨(r3 _ (List.mem_cons_self ..)).1, (r3 _ (List.mem_cons_self ..)).2.1, F⟩
    · obtain ⟨p1, p2, p3⟩ := r3 x (List.mem_cons_of_mem _ hx)
      refine ⟨p1, p2, p3.frame fun b h1 h2 => e b ?_⟩
      have := (List.pairwise_cons.mp r4).1 x hx
      simp only at this
      omega
  · have := List.pairwise_cons.mp r4
    exact List.pairwise_cons.mpr ⟨fun y hy => this.1 y hy, this.2⟩
theorem Rep.objs (R : Rep Z n0 h (top, (a, q, ob) :: H)) : n0 ≤ a ∧ a + q < top ∧ ObjAt Z h a q ob := R.2.2.1 _ (List.mem_cons_self ..)
theorem Rep.putI {x : Int32} (hw : ∀ d ∈ tables_1, d.before a0 Z = true) (R : Rep Z n0 h (top, (a, q, ob) :: H)) (hk : K.2.1[k]? = some nd) (W : Wr h h' a (Jvm.RoadKit.slotOf Z K.1 nd.1 nd.2) (.int x)) : Rep Z n0 h' (top, (a, q, sI ob k x) :: H) :=
  R.upd W.size (R.2.1.wr W R.objs.1) (fun b hb => wr_ne W (by omega)) (R.objs.2.2.putI hw hk W)
theorem Rep.putA {x j : Int32} (R : Rep Z n0 h (top, (a, q, ob) :: H)) (hk : K.2.2[k]? = some t) (hq : k < q) (ht : t.2.1 ≠ .long) (hj : ¬ j < 0 ∧ j < t.2.2) (W : Wr h h' (a + 1 + k) j.toNatClampNeg (.int x)) : Rep Z n0 h' (top, (a, q, sA ob k j x) :: H) :=
  R.upd W.size (R.2.1.wr W (by have := R.objs.1; omega)) (fun b hb => wr_ne W (by omega)) (R.objs.2.2.putA hk hq hj W (el_sA ht j x) (fun k' t' ne => el_sA' j x k' t' ne) rfl)
theorem Rep.putJ {j : Int32} {x : Int64} (R : Rep Z n0 h (top, (a, q, ob) :: H)) (hk : K.2.2[k]? = some t) (hq : k < q) (ht : t.2.1 = .long) (hj : ¬ j < 0 ∧ j < t.2.2) (W : Wr h h' (a + 1 + k) j.toNatClampNeg (.long x)) : Rep Z n0 h' (top, (a, q, sJ ob k j x) :: H) :=
  R.upd W.size (R.2.1.wr W (by have := R.objs.1; omega)) (fun b hb => wr_ne W (by omega)) (R.objs.2.2.putA hk hq hj W (by rw [ht]; exact el_sJ j x) (fun k' t' ne => el_sJ' j x k' t' ne) rfl)
theorem Rep.swap {x y : Nat × Nat × Rec} (R : Rep Z n0 h (top, x :: y :: H)) : Rep Z n0 h (top, y :: x :: H) := by
  obtain ⟨r1, r2, r3, r4⟩ := R
  refine ⟨r1, r2, fun z hz => r3 z ?_, ?_⟩
  · simp only [List.mem_cons] at hz ⊢
    rcases hz with e | e | e
    · exact Or.inr (Or.inl e)
    · exact Or.inl e
    · exact Or.inr (Or.inr e)
  · simp only [List.pairwise_cons, List.mem_cons] at r4 ⊢
    obtain ⟨p1, p2, p3⟩ := r4
    refine ⟨fun z hz => ?_, fun z hz => p1 z (Or.inr hz), p3⟩
    rcases hz with rfl | hz
    · exact (p1 _ (Or.inl rfl)).symm
    · exact p2 z hz
theorem ObjAt.addA (hw : ∀ d ∈ tables_1, d.before a0 Z = true) (F : ObjAt Z h a k ob) (hk : K.2.2[k]? = some t) (A : ArrAt Z h (a + 1 + k) t.2.1 t.2.2 (el t.2.1 ob k)) (W : Wr h h' a (Jvm.RoadKit.slotOf Z K.1 t.1 (aD t.2.1)) (.ref (a + 1 + k))) : ObjAt Z h' a (k + 1) ob := by
  refine ⟨F.1.wr W, fun k' nd hk' => ?_, fun k' t' hk' hq => ?_, fun k' t' hk' hq => ?_⟩
  · obtain ⟨ty', hty'⟩ := pfS hk'
    exact (F.2.1 k' nd hk').other W (Or.inr (Jvm.RoadKit.slot_ne (laidS hw hk') (laidA hw hk) (nm_sa hk' hk) hty' (pfA hk)))
  · by_cases e : k' = k
    · subst e
      have et : t = t' := Option.some.inj (hk.symm.trans hk')
      subst et
      exact ⟨(F.2.2.2 k' t hk (Nat.le_refl _)).same W, arrAt_fr (wr_ne W (by omega)) A⟩
    · obtain ⟨f1, f2⟩ := F.2.2.1 k' t' hk' (by omega)
      exact ⟨f1.other W (Or.inr (Jvm.RoadKit.slot_ne (laidA hw hk') (laidA hw hk) (nm_aa hk' hk e) (pfA hk') (pfA hk))), arrAt_fr (wr_ne W (by omega)) f2⟩
  · exact (F.2.2.2 k' t' hk' (by omega)).other W (Or.inr (Jvm.RoadKit.slot_ne (laidA hw hk') (laidA hw hk) (nm_aa hk' hk (by omega)) (pfA hk') (pfA hk)))
theorem Rep.addA {h1 h2 : Heap} (hw : ∀ d ∈ tables_1, d.before a0 Z = true) (R : Rep Z n0 h (top, (a, k, ob) :: H)) (E : Ext h h1) (s1 : h1.size = top + 1) (htop : top = a + 1 + k) (hk : K.2.2[k]? = some t) (A : ArrAt Z h1 top t.2.1 t.2.2 (el t.2.1 ob k)) (W : Wr h1 h2 a (Jvm.RoadKit.slotOf Z K.1 t.1 (aD t.2.1)) (.ref top)) : Rep Z n0 h2 (top + 1, (a, k + 1, ob) :: H) := by
  obtain ⟨q1, q2, q3⟩ := R.objs
  have hp := List.pairwise_cons.mp R.2.2.2
  have hO : ObjAt Z h2 a (k + 1) ob := by
    subst htop
    exact (q3.ext E).addA hw hk A W
  refine ⟨W.size.trans s1, (R.2.1.ext E).wr W q1, List.forall_mem_cons.mpr ⟨⟨q1, ?_, hO⟩, fun x hx => ?_⟩, List.pairwise_cons.mpr ⟨fun y hy => ?_, hp.2⟩⟩
  · show a + (k + 1) < top + 1; omega
  · obtain ⟨p1, p2, p3⟩ := R.2.2.1 x (List.mem_cons_of_mem _ hx)
    have u1 : a + k < x.1 ∨ x.1 + x.2.1 < a := hp.1 x hx
    have u2 : x.1 + x.2.1 < top := p2
    exact ⟨p1, Nat.lt_succ_of_lt u2, (p3.ext E).frame fun b h1 h2 => wr_ne W (by omega)⟩
  · have u1 : a + k < y.1 ∨ y.1 + y.2.1 < a := hp.1 y hy
    have u2 : y.1 + y.2.1 < top := (R.2.2.1 y (List.mem_cons_of_mem _ hy)).2.1
    show a + (k + 1) < y.1 ∨ y.1 + y.2.1 < a
    omega
theorem arr_new {cA : ClassId} {ty : FieldType} {len : Int32} (A : Arr Z h b (newA cA ty len) ty) (hts : ty = .int ∨ ty = .boolean ∨ ty = .long) (hz : (∀ i, ob.2.1 k i = 0) ∧ (∀ i, ob.2.2 k i = 0)) : ArrAt Z h b ty len (el ty ob k) := by
  refine ⟨_, A, sz_new _ _ _, fun i h0 h1 => ?_⟩
  have hi : ¬ (i < 0 ∨ len.toNatClampNeg ≤ i.toNatClampNeg) := by
    have e0 : (0 : Int32).toInt = 0 := rfl
    simp only [Int32.lt_iff_toInt_lt, Int32.toNatClampNeg] at *
    omega
  rw [get_new hi]
  rcases hts with rfl | rfl | rfl
  · show some (Value.int 0) = some (Value.int (ob.2.1 k i)); rw [hz.1]
  · show some (Value.int 0) = some (Value.int (ob.2.1 k i)); rw [hz.1]
  · show some (Value.long 0) = some (Value.long (ob.2.2 k i)); rw [hz.2]
theorem Rep.start (s : State) : Rep s s.heap.size s.heap (s.heap.size, []) := ⟨rfl, Old.start s, fun x hx => (by cases hx), List.Pairwise.nil⟩
end Facts
/- bodies, decode facts, patterns of local variables -/
abbrev Bdy : Type := MethodName × ByteArray × Nat × Option FieldType × Room
def DAt (M : Bdy) (pc : Nat) (i : Instr) (n q : Nat) : Prop := decode M.2.1 pc = .ok (i, n) ∧ q = pc + n
abbrev Pat : Type := List (Option Slot)
abbrev vi (x : Int32) : Option Slot := some (.val (.int x))
abbrev vl (x : Int64) : Option Slot := some (.val (.long x))
abbrev vr (a : Nat) : Option Slot := some (.val (.ref a))
abbrev v2 : Option Slot := some .second
abbrev vn : Option Slot := none
def pget : Pat → Nat → Option Slot
  | [], _ => none
  | x :: _, 0 => x
  | _ :: l, n + 1 => pget l n
theorem pget_eq : ∀ (P : Pat) (i : Nat), pget P i = (P[i]?).join
  | [], _ => by simp [pget]
  | x :: l, 0 => by simp [pget]
  | x :: l, n + 1 => by simp [pget, pget_eq l n]
def pput : Pat → Nat → Option Slot → Pat
  | [], _, _ => []
  | _ :: l, 0, y => y :: l
  | x :: l, n + 1, y => x :: pput l n y
theorem pget_pput : ∀ (P : Pat) (i j : Nat) (y : Option Slot) (s : Slot), pget (pput P i y) j = some s → (j = i ∧ y = some s) ∨ (j ≠ i ∧ pget P j = some s)
  | [], _, _, _, _, h => by simp [pput, pget] at h
  | x :: l, 0, 0, y, s, h => Or.inl ⟨rfl, h⟩
  | x :: l, 0, j + 1, y, s, h => Or.inr ⟨by omega, h⟩
  | x :: l, i + 1, 0, y, s, h => Or.inr ⟨by omega, h⟩
  | x :: l, i + 1, j + 1, y, s, h => by
    rcases pget_pput l i j y s h with ⟨e, r⟩ | ⟨e, r⟩
    · exact Or.inl ⟨by omega, r⟩
    · exact Or.inr ⟨by omega, r⟩
/-- a two-word value whose first word is at i is forgotten -/
def pk1 (P : Pat) (i : Nat) : Pat := match pget P i with
  | some (.val (.long _)) => pput P i none
  | some (.val (.double _)) => pput P i none
  | _ => P
def pk2 (P : Pat) (i : Nat) : Pat := match pget P i with
  | some .second => pput P i none
  | _ => P
def pkp (P : Pat) : Nat → Pat
  | 0 => P
  | i + 1 => pk1 P i
def ps1 (P : Pat) (i : Nat) (v : Value) : Pat := pput (pk2 (pkp P i) (i + 1)) i (some (.val v))
def ps2 (P : Pat) (i : Nat) (v : Value) : Pat := pput (pput (pk2 (pkp P i) (i + 2)) i (some (.val v))) (i + 1) (some .second)
def WFl (L : Array Slot) : Prop := (∀ i : Nat, L[i]? = some .second → ∃ (j : Nat) (v : Value), i = j + 1 ∧ L[j]? = some (.val v) ∧ v.category = 2) ∧ (∀ (i : Nat) (v : Value), L[i]? = some (.val v) → v.category = 2 → L[i + 1]? = some .second)
def Fits (P : Pat) (L : Array Slot) : Prop := (∀ i s, pget P i = some s → L[i]? = some s) ∧ WFl L
theorem pk1_sub {P : Pat} {i j : Nat} {s : Slot} (h : pget (pk1 P i) j = some s) : pget P j = some s ∧ (j = i → ∀ w : Value, s = .val w → w.category = 1) := by
  unfold pk1 at h
  split at h
  · rcases pget_pput _ _ _ _ _ h with ⟨-, e⟩ | ⟨e, r⟩
    · cases e
    · exact ⟨r, fun q => absurd q e⟩
  · rcases pget_pput _ _ _ _ _ h with ⟨-, e⟩ | ⟨e, r⟩
    · cases e
    · exact ⟨r, fun q => absurd q e⟩
  · rename_i h1 h2
    refine ⟨h, fun q w e => ?_⟩
    subst q e
    cases w <;> first | rfl | exact absurd h (h1 _) | exact absurd h (h2 _)
theorem pk2_sub {P : Pat} {i j : Nat} {s : Slot} (h : pget (pk2 P i) j = some s) : pget P j = some s ∧ (j = i → s ≠ .second) := by
  unfold pk2 at h
  split at h
  · rcases pget_pput _ _ _ _ _ h with ⟨-, e⟩ | ⟨e, r⟩
    · cases e
    · exact ⟨r, fun q => absurd q e⟩
  · rename_i h1
    refine ⟨h, fun q e => ?_⟩
    subst q e; exact h1 h
theorem pkp_sub {P : Pat} {i j : Nat} {s : Slot} (h : pget (pkp P i) j = some s) : pget P j = some s ∧ (j + 1 = i → ∀ w : Value, s = .val w → w.category = 1) := by
  cases i with
  | zero => exact ⟨h, fun q => by omega⟩
  | succ i => obtain ⟨h1, h2⟩ := pk1_sub (show pget (pk1 P i) j = some s from h); exact ⟨h1, fun q => h2 (by omega)⟩
theorem setAt_eq {L : Array Slot} {i : Nat} {x : Slot} (hi : i < L.size) : Jvm.setAt L i x = some (L.setIfInBounds i x) := by simp [Jvm.setAt, hi]
theorem sl_second {L : Array Slot} {i : Nat} {v : Value} (ho : L[i]? = some .second) : storeLocals L i v = (Jvm.setAt L (i - 1) .unset).bind fun l => storeSelf l i v := by
  unfold storeLocals; rw [ho]; rfl
theorem sl_unset {L : Array Slot} {i : Nat} {v : Value} (ho : L[i]? = some .unset) : storeLocals L i v = storeSelf L i v := by
  unfold storeLocals; rw [ho]; rfl
theorem sl_val {L : Array Slot} {i : Nat} {v o : Value} (ho : L[i]? = some (.val o)) : storeLocals L i v = if o.category = 2 then (Jvm.setAt L (i + 1) .unset).bind fun l => storeSelf l i v else storeSelf L i v := by
  unfold storeLocals; rw [ho]; rfl
theorem ss_one {L : Array Slot} {i : Nat} {v : Value} (hi : i < L.size) (hv : ¬ v.category = 2) : storeSelf L i v = some (L.setIfInBounds i (.val v)) := by
  unfold storeSelf; rw [setAt_eq hi]; simp [hv]
theorem ss_two {L : Array Slot} {i : Nat} {v : Value} {o : Slot} (hi : i < L.size) (hv : v.category = 2) (ho : L[i + 1]? = some o) : storeSelf L i v = (match o with
    | .val old => if old.category = 2 then (Jvm.setAt (L.setIfInBounds i (.val v)) (i + 2) .unset).bind fun l => Jvm.setAt l (i + 1) .second else Jvm.setAt (L.setIfInBounds i (.val v)) (i + 1) .second
    | _ => Jvm.setAt (L.setIfInBounds i (.val v)) (i + 1) .second) := by
  have e : (L.setIfInBounds i (.val v))[i + 1]? = some o := by rw [Array.getElem?_setIfInBounds_ne (by omega)]; exact ho
  unfold storeSelf; rw [setAt_eq hi]
  show (if v.category = 2 then _ else _) = _
  rw [if_pos hv, e]
  cases o <;> rfl
theorem cat12 (v : Value) : v.category = 1 ∨ v.category = 2 := by cases v <;> first | exact Or.inl rfl | exact Or.inr rfl
/-- a one-word store: what stands elsewhere stays, but for the halves of a two-word value that it breaks -/
theorem store_one {L : Array Slot} {i : Nat} {v : Value} (hW : WFl L) (hi : i < L.size) (hv : v.category = 1) :
    ∃ L', storeLocals L i v = some L' ∧ L'.size = L.size ∧ WFl L' ∧ L'[i]? = some (.val v) ∧ ∀ j, j ≠ i → L'[j]? = L[j]? ∨ (j + 1 = i ∧ L[i]? = some .second) ∨ (j = i + 1 ∧ L[j]? = some .second) := by
  have hv2 : ¬ v.category = 2 := by omega
  cases ho : L[i]? with
  | none => rw [Array.getElem?_eq_none_iff] at ho; omega
  | some o =>
    cases o with
    | unset =>
      refine ⟨L.setIfInBounds i (.val v), ?_, by simp, ?_, by simp [hi], fun j hj => Or.inl (Array.getElem?_setIfInBounds_ne (Ne.symm hj))⟩
      · rw [sl_unset ho, ss_one hi hv2]
      · refine ⟨fun j hj => ?_, fun j w hj hw => ?_⟩
        · by_cases e : j = i
          · subst e; simp [hi] at hj
          · rw [Array.getElem?_setIfInBounds_ne (Ne.symm e)] at hj
            obtain ⟨j', w, e1, e2, e3⟩ := hW.1 j hj
            refine ⟨j', w, e1, ?_, e3⟩
            rw [Array.getElem?_setIfInBounds_ne]; exact e2
            intro q; subst q; rw [ho] at e2; cases e2
        · by_cases e : j = i
          · subst e; simp [hi] at hj; subst hj; omega
          · rw [Array.getElem?_setIfInBounds_ne (Ne.symm e)] at hj
            have := hW.2 j w hj hw
            rw [Array.getElem?_setIfInBounds_ne]; exact this
            intro q; subst q; rw [ho] at this; cases this
    | second =>
      obtain ⟨j0, w0, rfl, f2, f3⟩ := hW.1 i ho
      have hj0 : j0 < L.size := by omega
      refine ⟨(L.setIfInBounds j0 .unset).setIfInBounds (j0 + 1) (.val v), ?_, by simp, ?_, by simp [hi], fun j hj => ?_⟩
      · rw [sl_second ho, show j0 + 1 - 1 = j0 from rfl, setAt_eq hj0]; exact ss_one (by simpa using hi) hv2
      · refine ⟨fun j hj => ?_, fun j w hj hw => ?_⟩
        · by_cases e : j = j0 + 1
          · subst e; simp [hi] at hj
          · rw [Array.getElem?_setIfInBounds_ne (Ne.symm e)] at hj
            by_cases e' : j = j0
            · subst e'; simp [hj0] at hj
            · rw [Array.getElem?_setIfInBounds_ne (Ne.symm e')] at hj
              obtain ⟨j', w, e1, e2, e3⟩ := hW.1 j hj
              refine ⟨j', w, e1, ?_, e3⟩
              rw [Array.getElem?_setIfInBounds_ne, Array.getElem?_setIfInBounds_ne]
              · exact e2
              · intro q; subst q; omega
              · intro q; subst q; rw [ho] at e2; cases e2
        · by_cases e : j = j0 + 1
          · subst e; simp [hi] at hj; subst hj; omega
          · rw [Array.getElem?_setIfInBounds_ne (Ne.symm e)] at hj
            by_cases e' : j = j0
            · subst e'; simp [hj0] at hj
            · rw [Array.getElem?_setIfInBounds_ne (Ne.symm e')] at hj
              have := hW.2 j w hj hw
              rw [Array.getElem?_setIfInBounds_ne, Array.getElem?_setIfInBounds_ne]
              · exact this
              · intro q; subst q; rw [f2] at this; cases this
              · omega
      · by_cases e' : j = j0
        · exact Or.inr (Or.inl ⟨by omega, rfl⟩)
        · left; rw [Array.getElem?_setIfInBounds_ne (Ne.symm hj), Array.getElem?_setIfInBounds_ne (Ne.symm e')]
    | val old =>
      by_cases hc : old.category = 2
      · have f2 := hW.2 i old ho hc
        have hi1 : i + 1 < L.size := (Array.getElem?_eq_some_iff.mp f2).1
        refine ⟨(L.setIfInBounds (i + 1) .unset).setIfInBounds i (.val v), ?_, by simp, ?_, by simp [hi], fun j hj => ?_⟩
        · rw [sl_val ho, if_pos hc, setAt_eq hi1]; exact ss_one (by simpa using hi) hv2
        · refine ⟨fun j hj => ?_, fun j w hj hw => ?_⟩
          · by_cases e : j = i
            · subst e; simp [hi] at hj
            · rw [Array.getElem?_setIfInBounds_ne (Ne.symm e)] at hj
              by_cases e' : j = i + 1
              · subst e'; simp [hi1] at hj
              · rw [Array.getElem?_setIfInBounds_ne (Ne.symm e')] at hj
                obtain ⟨j', w, e1, e2, e3⟩ := hW.1 j hj
                refine ⟨j', w, e1, ?_, e3⟩
                rw [Array.getElem?_setIfInBounds_ne, Array.getElem?_setIfInBounds_ne]
                · exact e2
                · intro q; subst q; rw [f2] at e2; cases e2
                · omega
          · by_cases e : j = i
            · subst e; simp [hi] at hj; subst hj; omega
            · rw [Array.getElem?_setIfInBounds_ne (Ne.symm e)] at hj
              by_cases e' : j = i + 1
              · subst e'; simp [hi1] at hj
              · rw [Array.getElem?_setIfInBounds_ne (Ne.symm e')] at hj
                have := hW.2 j w hj hw
                rw [Array.getElem?_setIfInBounds_ne, Array.getElem?_setIfInBounds_ne]
                · exact this
                · omega
                · intro q; subst q; rw [ho] at this; cases this
        · by_cases e' : j = i + 1
          · subst e'; exact Or.inr (Or.inr ⟨rfl, f2⟩)
          · left; rw [Array.getElem?_setIfInBounds_ne (Ne.symm hj), Array.getElem?_setIfInBounds_ne (Ne.symm e')]
      · refine ⟨L.setIfInBounds i (.val v), ?_, by simp, ?_, by simp [hi], fun j hj => Or.inl (Array.getElem?_setIfInBounds_ne (Ne.symm hj))⟩
        · rw [sl_val ho, if_neg hc, ss_one hi hv2]
        · refine ⟨fun j hj => ?_, fun j w hj hw => ?_⟩
          · by_cases e : j = i
            · subst e; simp [hi] at hj
            · rw [Array.getElem?_setIfInBounds_ne (Ne.symm e)] at hj
              obtain ⟨j', w, e1, e2, e3⟩ := hW.1 j hj
              refine ⟨j', w, e1, ?_, e3⟩
              rw [Array.getElem?_setIfInBounds_ne]; exact e2
              intro q; subst q; rw [ho] at e2; cases e2; omega
          · by_cases e : j = i
            · subst e; simp [hi] at hj; subst hj; omega
            · rw [Array.getElem?_setIfInBounds_ne (Ne.symm e)] at hj
              have := hW.2 j w hj hw
              rw [Array.getElem?_setIfInBounds_ne]; exact this
              intro q; subst q; rw [ho] at this; cases this
theorem Fits.store1 {P : Pat} {L : Array Slot} {i : Nat} {v : Value} (h : Fits P L) (hi : i < L.size) (hv : v.category = 1) :
    ∃ L', storeLocals L i v = some L' ∧ L'.size = L.size ∧ Fits (ps1 P i v) L' := by
  obtain ⟨L', e1, e2, e3, e4, e5⟩ := store_one h.2 hi hv
  refine ⟨L', e1, e2, fun j s hj => ?_, e3⟩
  rcases pget_pput _ _ _ _ _ hj with ⟨rfl, q⟩ | ⟨ne, q⟩
  · rw [e4]; exact q
  · obtain ⟨q1, q2⟩ := pk2_sub q
    obtain ⟨q3, q4⟩ := pkp_sub q1
    have hL := h.1 j s q3
    rcases e5 j ne with r | ⟨r1, r2⟩ | ⟨r1, r2⟩
    · rw [r]; exact hL
    · obtain ⟨j', w, z1, z2, z3⟩ := h.2.1 i r2
      have : j' = j := by omega
      subst this
      rw [hL] at z2; cases z2
      have := q4 r1 w rfl; omega
    · rw [hL] at r2; cases r2
      exact absurd rfl (q2 r1)
theorem st_ph1 {L : Array Slot} {i : Nat} {v : Value} (hW : WFl L) (hi : i + 1 < L.size) :
    ∃ A : Array Slot, storeLocals L i v = storeSelf A i v ∧ A.size = L.size ∧ (∀ j, j ≠ i → j ≠ i + 1 → A[j]? = L[j]? ∨ (j + 1 = i ∧ L[i]? = some .second ∧ A[j]? = some .unset)) ∧ (A[i + 1]? = L[i + 1]? ∨ (A[i + 1]? = some .unset ∧ L[i + 1]? = some .second)) ∧ (L[i]? = some .second → ∀ j, j + 1 = i → A[j]? = some .unset) := by
  have hi0 : i < L.size := by omega
  cases ho : L[i]? with
  | none => rw [Array.getElem?_eq_none_iff] at ho; omega
  | some o =>
    cases o with
    | unset => exact ⟨L, sl_unset ho, rfl, fun j _ _ => Or.inl rfl, Or.inl rfl, fun q => by cases q⟩
    | second =>
      obtain ⟨j0, w0, rfl, f2, f3⟩ := hW.1 i ho
      have hj0 : j0 < L.size := by omega
      refine ⟨L.setIfInBounds j0 .unset, by rw [sl_second ho, show j0 + 1 - 1 = j0 from rfl, setAt_eq hj0]; rfl, by simp, fun j h1 h2 => ?_, Or.inl (Array.getElem?_setIfInBounds_ne (by omega)), fun _ j hj => ?_⟩
      · by_cases e : j = j0
        · subst e; exact Or.inr ⟨rfl, rfl, by simp [hj0]⟩
        · exact Or.inl (Array.getElem?_setIfInBounds_ne (Ne.symm e))
      · have : j = j0 := by omega
        subst this; simp [hj0]
    | val old =>
      by_cases hc : old.category = 2
      · refine ⟨L.setIfInBounds (i + 1) .unset, by rw [sl_val ho, if_pos hc, setAt_eq hi]; rfl, by simp, fun j h1 h2 => Or.inl (Array.getElem?_setIfInBounds_ne (Ne.symm h2)), Or.inr ⟨by simp [hi], hW.2 i old ho hc⟩, fun q => by cases q⟩
      · exact ⟨L, by rw [sl_val ho, if_neg hc], rfl, fun j _ _ => Or.inl rfl, Or.inl rfl, fun q => by cases q⟩
theorem st_ph2 {A : Array Slot} {i : Nat} {v : Value} (hi : i + 1 < A.size) (hv : v.category = 2) (hn : ∀ w : Value, A[i + 1]? = some (.val w) → w.category = 2 → i + 2 < A.size) :
    ∃ L', storeSelf A i v = some L' ∧ L'.size = A.size ∧ L'[i]? = some (.val v) ∧ L'[i + 1]? = some .second ∧ (∀ j, j ≠ i → j ≠ i + 1 → L'[j]? = A[j]? ∨ (j = i + 2 ∧ L'[j]? = some .unset ∧ ∃ w : Value, A[i + 1]? = some (.val w) ∧ w.category = 2)) ∧ ((∃ w : Value, A[i + 1]? = some (.val w) ∧ w.category = 2) → L'[i + 2]? = some .unset) := by
  have hi0 : i < A.size := by omega
  have eB : (A.setIfInBounds i (.val v))[i + 1]? = A[i + 1]? := Array.getElem?_setIfInBounds_ne (by omega)
  have plain : (∀ w : Value, A[i + 1]? = some (.val w) → w.category ≠ 2) → storeSelf A i v = some ((A.setIfInBounds i (.val v)).setIfInBounds (i + 1) .second) := fun hq => by
    cases ho : A[i + 1]? with
    | none => rw [Array.getElem?_eq_none_iff] at ho; omega
    | some o => cases o with
      | unset => rw [ss_two hi0 hv ho]; exact setAt_eq (by simpa using hi)
      | second => rw [ss_two hi0 hv ho]; exact setAt_eq (by simpa using hi)
      | val w => have := hq w ho; rw [ss_two hi0 hv ho]; simp only [if_neg this]; exact setAt_eq (by simpa using hi)
  by_cases hw : ∃ w : Value, A[i + 1]? = some (.val w) ∧ w.category = 2
  · obtain ⟨w, h1, h2⟩ := hw
    have h3 := hn w h1 h2
    refine ⟨((A.setIfInBounds i (.val v)).setIfInBounds (i + 2) .unset).setIfInBounds (i + 1) .second, by rw [ss_two hi0 hv h1]; simp only [if_pos h2]; rw [setAt_eq (by simpa using h3)]; exact setAt_eq (by simpa using hi), by simp, ?_, by simp [hi], fun j a b => ?_, fun _ => ?_⟩
    · rw [Array.getElem?_setIfInBounds_ne (by omega), Array.getElem?_setIfInBounds_ne (by omega)]; simp [hi0]
    · rw [Array.getElem?_setIfInBounds_ne (by omega)]
      by_cases e : j = i + 2
      · subst e; exact Or.inr ⟨rfl, by simp [h3], w, h1, h2⟩
      · left; rw [Array.getElem?_setIfInBounds_ne (by omega), Array.getElem?_setIfInBounds_ne (by omega)]
    · rw [Array.getElem?_setIfInBounds_ne (by omega)]; simp [h3]
  · refine ⟨_, plain fun w h1 h2 => hw ⟨w, h1, h2⟩, by simp, ?_, by simp [hi], fun j a b => Or.inl ?_, fun q => absurd q hw⟩
    · rw [Array.getElem?_setIfInBounds_ne (by omega)]; simp [hi0]
    · rw [Array.getElem?_setIfInBounds_ne (by omega), Array.getElem?_setIfInBounds_ne (by omega)]
theorem store_two {L : Array Slot} {i : Nat} {v : Value} (hW : WFl L) (hi : i + 1 < L.size) (hv : v.category = 2) :
    ∃ L', storeLocals L i v = some L' ∧ L'.size = L.size ∧ WFl L' ∧ L'[i]? = some (.val v) ∧ L'[i + 1]? = some .second ∧ ∀ j, j ≠ i → j ≠ i + 1 → L'[j]? = L[j]? ∨ (j + 1 = i ∧ L[i]? = some .second) ∨ (j = i + 2 ∧ L[j]? = some .second) := by
  obtain ⟨A, a1, a2, a3, a4, a5⟩ := st_ph1 (v := v) hW hi
  have a6 : ∀ w : Value, A[i + 1]? = some (.val w) → w.category = 2 → L[i + 2]? = some .second := fun w h1 h2 => by
    rcases a4 with e | ⟨e, -⟩
    · rw [e] at h1; exact hW.2 _ _ h1 h2
    · rw [e] at h1; cases h1
  obtain ⟨L', b1, b2, b3, b4, b5, b6⟩ := st_ph2 (A := A) (i := i) (v := v) (by omega) hv (fun w h1 h2 => by have := (Array.getElem?_eq_some_iff.mp (a6 w h1 h2)).1; omega)
  have c : ∀ j, j ≠ i → j ≠ i + 1 → L'[j]? = L[j]? ∨ (j + 1 = i ∧ L[i]? = some .second ∧ L'[j]? = some .unset) ∨ (j = i + 2 ∧ L[j]? = some .second ∧ L'[j]? = some .unset) := fun j h1 h2 => by
    rcases b5 j h1 h2 with e | ⟨e1, e2, w, e3, e4⟩
    · rcases a3 j h1 h2 with r | ⟨r1, r2, r3⟩
      · exact Or.inl (e.trans r)
      · exact Or.inr (Or.inl ⟨r1, r2, e.trans r3⟩)
    · subst e1; exact Or.inr (Or.inr ⟨rfl, a6 w e3 e4, e2⟩)
  have cs : L[i]? = some .second → ∀ j, j + 1 = i → L'[j]? = some .unset := fun q j hj => by
    rcases b5 j (by omega) (by omega) with e | ⟨e1, -⟩
    · exact e.trans (a5 q j hj)
    · omega
  have c2 : L[i + 2]? = some .second → L'[i + 2]? = some .unset := fun q => by
    obtain ⟨j', w, z1, z2, z3⟩ := hW.1 _ q
    have : j' = i + 1 := by omega
    subst this
    rcases a4 with e | ⟨-, e⟩
    · exact b6 ⟨w, e.trans z2, z3⟩
    · rw [e] at z2; cases z2
  refine ⟨L', a1.trans b1, b2.trans a2, ⟨fun j hj => ?_, fun j w hj hw => ?_⟩, b3, b4, fun j h1 h2 => ?_⟩
  · by_cases e0 : j = i
    · subst e0; rw [b3] at hj; cases hj
    by_cases e1 : j = i + 1
    · exact ⟨i, v, e1, b3, hv⟩
    rcases c j e0 e1 with r | ⟨-, -, r⟩ | ⟨-, -, r⟩
    · rw [r] at hj
      obtain ⟨j', w, z1, z2, z3⟩ := hW.1 j hj
      refine ⟨j', w, z1, ?_, z3⟩
      have n0 : j' ≠ i := by omega
      by_cases n1 : j' = i + 1
      · have : j = i + 2 := by omega
        subst this
        rw [c2 hj] at r; rw [hj] at r; cases r
      rcases c j' n0 n1 with u | ⟨u, -, -⟩ | ⟨-, u, -⟩
      · exact u.trans z2
      · omega
      · rw [z2] at u; cases u
    · rw [r] at hj; cases hj
    · rw [r] at hj; cases hj
  · by_cases e0 : j = i
    · subst e0; exact b4
    by_cases e1 : j = i + 1
    · subst e1; rw [b4] at hj; cases hj
    rcases c j e0 e1 with r | ⟨-, -, r⟩ | ⟨-, -, r⟩
    · have hj' := hj
      rw [r] at hj
      have z := hW.2 j w hj hw
      by_cases n0 : j + 1 = i
      · subst n0; rw [cs z j rfl] at hj'; cases hj'
      by_cases n1 : j + 1 = i + 1
      · omega
      rcases c (j + 1) n0 n1 with u | ⟨u1, u2, -⟩ | ⟨u, -, -⟩
      · exact u.trans z
      · obtain ⟨j', w', y1, y2, y3⟩ := hW.1 i u2
        have : j' = j + 1 := by omega
        subst this; rw [z] at y2; cases y2
      · omega
    · rw [r] at hj; cases hj
    · rw [r] at hj; cases hj
  · rcases c j h1 h2 with r | ⟨r1, r2, -⟩ | ⟨r1, r2, -⟩
    · exact Or.inl r
    · exact Or.inr (Or.inl ⟨r1, r2⟩)
    · exact Or.inr (Or.inr ⟨r1, r2⟩)
theorem Fits.store2 {P : Pat} {L : Array Slot} {i : Nat} {v : Value} (h : Fits P L) (hi : i + 1 < L.size) (hv : v.category = 2) :
    ∃ L', storeLocals L i v = some L' ∧ L'.size = L.size ∧ Fits (ps2 P i v) L' := by
  obtain ⟨L', e1, e2, e3, e4, e4', e5⟩ := store_two h.2 hi hv
  refine ⟨L', e1, e2, fun j s hj => ?_, e3⟩
  rcases pget_pput _ _ _ _ _ hj with ⟨rfl, q⟩ | ⟨ne, q⟩
  · rw [e4']; exact q
  rcases pget_pput _ _ _ _ _ q with ⟨rfl, q'⟩ | ⟨ne', q'⟩
  · rw [e4]; exact q'
  obtain ⟨q1, q2⟩ := pk2_sub q'
  obtain ⟨q3, q4⟩ := pkp_sub q1
  have hL := h.1 j s q3
  rcases e5 j ne' ne with r | ⟨r1, r2⟩ | ⟨r1, r2⟩
  · rw [r]; exact hL
  · obtain ⟨j', w, z1, z2, z3⟩ := h.2.1 i r2
    have : j' = j := by omega
    subst this
    rw [hL] at z2; cases z2
    have := q4 r1 w rfl; omega
  · rw [hL] at r2; cases r2
    exact absurd rfl (q2 r1)
/- what a body does from a place on -/
def Runs (C : Ctx) (M : Bdy) (k n pc : Nat) (P : Pat) (S : List Value) (G : AH) (Q : Option Value → AH → Prop) : Prop :=
  Ok C → ∀ (p : Program) (e : Env) (s : State) (m : MethodId) (args : Array Value) (below : List Frame) (meth : Method) (c : Code) (T : State) (locs : List Loc) (L : Array Slot),
    p.tables.exec = Jvm.exec → c.code = M.2.1 → c.maxLocals = M.2.2.1 → meth.sig.returnType = M.2.2.2.1 → meth.name = M.1.name → s.vm.findClass M.1.cls = some m.cls → C.2.1.Warmed39 s.vm →
    Fits P L → L.size = M.2.2.1 → Stand p C.1 e M.2.2.2.2 s m args below meth c T locs k n → Rep C.2.1 C.2.2.1 T.heap G → Fr C.2.2.1 locs →
    ∃ (T' : State) (locs' : List Loc) (k' n' : Nat) (r : Option Value) (G' : AH), Stand p C.1 e M.2.2.2.2 s m args below meth c T' locs' k' n' ∧ k' ≤ M.2.2.2.2.cells ∧ n' ≤ M.2.2.2.2.slots ∧ Rep C.2.1 C.2.2.1 T'.heap G' ∧ Fr C.2.2.1 locs' ∧ Q r G' ∧
      (M.2.2.2.1 = none → r = none) ∧
      ∀ fs : List Frame, (∀ (f : JFrame) (acts : List Action), f.method = m → f.locked = none → f.entered = [] → (doReturn e (T'.setTop f) acts r).1 = T'.setFrames fs) → Steps p.tables e below (T.setTop (mkF m pc L S)) (T'.setFrames fs)
section Rules
variable {C : Ctx} {M : Bdy} {k n pc q : Nat} {P P' : Pat} {S S' : List Value} {G : AH} {Q : Option Value → AH → Prop}
/-- a step that leaves the heap alone -/
theorem Runs.pure {i : Instr} {len : Nat} (d : DAt M pc i len q) {pc' : Nat}
    (st : ∀ (p : Program) (e : Env) (s : State) (m : MethodId) (args : Array Value) (below : List Frame) (meth : Method) (c : Code) (T : State) (locs : List Loc) (L : Array Slot), Ok C → p.tables.exec = Jvm.exec → s.vm.findClass M.1.cls = some m.cls → C.2.1.Warmed39 s.vm → decode c.code pc = .ok (i, len) → Fits P L → L.size = M.2.2.1 → Rep C.2.1 C.2.2.1 T.heap G →
      Stand p C.1 e M.2.2.2.2 s m args below meth c T locs k n → ∃ L', Fits P' L' ∧ L'.size = M.2.2.1 ∧ ∀ t, Steps p.tables e below (T.setTop (mkF m pc' L' S')) t → Steps p.tables e below (T.setTop (mkF m pc L S)) t)
    (h : Runs C M k n pc' P' S' G Q) : Runs C M k n pc P S G Q := by
  intro hw p e s m args below meth c T locs L hx hby hml hret hnm hown hZ hP hsz X hR hF
  obtain ⟨L', f1, f2, f3⟩ := st p e s m args below meth c T locs L hw hx hown hZ (hb hby d.1) hP hsz hR X
  obtain ⟨T', locs', k', n', r, G', g1, g2, g3, g4, g5, g6, g7, g8⟩ := h hw p e s m args below meth c T locs L' hx hby hml hret hnm hown hZ f1 f2 X hR hF
  exact ⟨T', locs', k', n', r, G', g1, g2, g3, g4, g5, g6, g7, fun fs hr => f3 _ (g8 fs hr)⟩
/-- a step that keeps the locals and what the heap says -/
theorem Runs.stk {i : Instr} {len : Nat} (d : DAt M pc i len q)
    (st : ∀ (p : Program) (e : Env) (s : State) (m : MethodId) (args : Array Value) (below : List Frame) (meth : Method) (c : Code) (T : State) (locs : List Loc) (L : Array Slot), p.tables.exec = Jvm.exec → decode c.code pc = .ok (i, len) → Fits P L →
      Stand p C.1 e M.2.2.2.2 s m args below meth c T locs k n → ∀ t, Steps p.tables e below (T.setTop (mkF m (pc + len) L S')) t → Steps p.tables e below (T.setTop (mkF m pc L S)) t)
    (h : Runs C M k n q P S' G Q) : Runs C M k n pc P S G Q := by
  have hq := d.2
  subst hq
  exact Runs.pure d (fun p e s m args below meth c T locs L _ hx _ _ hd hP hsz _ X => ⟨L, hP, hsz, st p e s m args below meth c T locs L hx hd hP X⟩) h
theorem Runs.iloadN {j : Fin 4} {v : Int32} (d : DAt M pc (.iload_n j) 1 q) (hl : pget P j.val = vi v) (h : Runs C M k n q P (.int v :: S) G Q) : Runs C M k n pc P S G Q :=
  Runs.stk d (fun p e s m args below meth c T locs L hx hd hP X t r => XS.iloadN (g := mkF m pc L S) X.here hx rfl hd (hP.1 _ _ hl) r) h
theorem Runs.iload {j : Nat} {v : Int32} (d : DAt M pc (.iload j) 2 q) (hl : pget P j = vi v) (h : Runs C M k n q P (.int v :: S) G Q) : Runs C M k n pc P S G Q :=
  Runs.stk d (fun p e s m args below meth c T locs L hx hd hP X t r => XS.iload (g := mkF m pc L S) X.here hx rfl hd (hP.1 _ _ hl) r) h
theorem Runs.lloadN {j : Fin 4} {v : Int64} (d : DAt M pc (.lload_n j) 1 q) (hl : pget P j.val = vl v) (h : Runs C M k n q P (.long v :: S) G Q) : Runs C M k n pc P S G Q :=
  Runs.stk d (fun p e s m args below meth c T locs L hx hd hP X t r => XS.lloadN (g := mkF m pc L S) X.here hx rfl hd (hP.1 _ _ hl) r) h
theorem Runs.lload {j : Nat} {v : Int64} (d : DAt M pc (.lload j) 2 q) (hl : pget P j = vl v) (h : Runs C M k n q P (.long v :: S) G Q) : Runs C M k n pc P S G Q :=
  Runs.stk d (fun p e s m args below meth c T locs L hx hd hP X t r => XS.lload (g := mkF m pc L S) X.here hx rfl hd (hP.1 _ _ hl) r) h
theorem Runs.aloadN {j : Fin 4} {v : Nat} (d : DAt M pc (.aload_n j) 1 q) (hl : pget P j.val = vr v) (h : Runs C M k n q P (.ref v :: S) G Q) : Runs C M k n pc P S G Q :=
  Runs.stk d (fun p e s m args below meth c T locs L hx hd hP X t r => XS.aloadN (g := mkF m pc L S) X.here hx rfl hd (hP.1 _ _ hl) rfl r) h
theorem Runs.aload {j : Nat} {v : Nat} (d : DAt M pc (.aload j) 2 q) (hl : pget P j = vr v) (h : Runs C M k n q P (.ref v :: S) G Q) : Runs C M k n pc P S G Q :=
  Runs.stk d (fun p e s m args below meth c T locs L hx hd hP X t r => XS.aload (g := mkF m pc L S) X.here hx rfl hd (hP.1 _ _ hl) rfl r) h
theorem Runs.iconst {i : Int} {v : Int32} (d : DAt M pc (.iconst i) 1 q) (hv : Int32.ofInt i = v) (h : Runs C M k n q P (.int v :: S) G Q) : Runs C M k n pc P S G Q :=
  Runs.stk d (fun p e s m args below meth c T locs L hx hd hP X t r => XS.iconst (g := mkF m pc L S) X.here hx rfl hd (by rw [hv]; exact r)) h
theorem Runs.bipush {i : Int} {v : Int32} (d : DAt M pc (.bipush i) 2 q) (hv : (Int8.ofInt i).toInt32 = v) (h : Runs C M k n q P (.int v :: S) G Q) : Runs C M k n pc P S G Q :=
  Runs.stk d (fun p e s m args below meth c T locs L hx hd hP X t r => XS.bipush (g := mkF m pc L S) X.here hx rfl hd (by rw [hv]; exact r)) h
theorem Runs.sipush {i : Int} {v : Int32} (d : DAt M pc (.sipush i) 3 q) (hv : (Int16.ofInt i).toInt32 = v) (h : Runs C M k n q P (.int v :: S) G Q) : Runs C M k n pc P S G Q :=
  Runs.stk d (fun p e s m args below meth c T locs L hx hd hP X t r => XS.sipush (g := mkF m pc L S) X.here hx rfl hd (by rw [hv]; exact r)) h
theorem Runs.lconst {i : Fin 2} {v : Int64} (d : DAt M pc (.lconst i) 1 q) (hv : Int64.ofNat i = v) (h : Runs C M k n q P (.long v :: S) G Q) : Runs C M k n pc P S G Q :=
  Runs.stk d (fun p e s m args below meth c T locs L hx hd hP X t r => Jvm.Free.XT.lconstV (g := mkF m pc L S) X.here hx rfl v hd hv r) h
theorem Runs.ldc {i : Nat} {v : Int32} (d : DAt M pc (.ldc i) 2 q) (w : Jvm.Cond.constant M.1.cls i v ∈ tables_1) (h : Runs C M k n q P (.int v :: S) G Q) : Runs C M k n pc P S G Q := by
  have hq := d.2
  subst hq
  exact Runs.pure d (fun p e s m args below meth c T locs L hw hx hown hZ hd hP hsz _ X => ⟨L, hP, hsz, fun t r => X.ldcInt hx hown (mvT hZ (hw _ w)) (g := mkF m pc L S) rfl hd t r⟩) h
theorem Runs.ldc2 {i : Nat} {v : Int64} (d : DAt M pc (.ldc2_w i) 3 q) (w : Jvm.Cond.constantLong M.1.cls i v ∈ tables_1) (h : Runs C M k n q P (.long v :: S) G Q) : Runs C M k n pc P S G Q := by
  have hq := d.2
  subst hq
  exact Runs.pure d (fun p e s m args below meth c T locs L hw hx hown hZ hd hP hsz _ X => ⟨L, hP, hsz, fun t r => X.ldc2Long hx hown (mvT hZ (hw _ w)) (g := mkF m pc L S) rfl hd t r⟩) h
theorem Runs.iadd {x y : Int32} (d : DAt M pc .iadd 1 q) (h : Runs C M k n q P (.int (x + y) :: S) G Q) : Runs C M k n pc P (.int y :: .int x :: S) G Q :=
  Runs.stk d (fun p e s m args below meth c T locs L hx hd hP X t r => XS.iadd (g := mkF m pc L (.int y :: .int x :: S)) X.here hx rfl hd rfl r) h
theorem Runs.isub {x y : Int32} (d : DAt M pc .isub 1 q) (h : Runs C M k n q P (.int (x - y) :: S) G Q) : Runs C M k n pc P (.int y :: .int x :: S) G Q :=
  Runs.stk d (fun p e s m args below meth c T locs L hx hd hP X t r => XS.isub (g := mkF m pc L (.int y :: .int x :: S)) X.here hx rfl hd rfl r) h
theorem Runs.imul {x y : Int32} (d : DAt M pc .imul 1 q) (h : Runs C M k n q P (.int (x * y) :: S) G Q) : Runs C M k n pc P (.int y :: .int x :: S) G Q :=
  Runs.stk d (fun p e s m args below meth c T locs L hx hd hP X t r => XS.imul (g := mkF m pc L (.int y :: .int x :: S)) X.here hx rfl hd rfl r) h
theorem Runs.iand {x y : Int32} (d : DAt M pc .iand 1 q) (h : Runs C M k n q P (.int (x &&& y) :: S) G Q) : Runs C M k n pc P (.int y :: .int x :: S) G Q :=
  Runs.stk d (fun p e s m args below meth c T locs L hx hd hP X t r => XS.iand (g := mkF m pc L (.int y :: .int x :: S)) X.here hx rfl hd rfl r) h
theorem Runs.ior {x y : Int32} (d : DAt M pc .ior 1 q) (h : Runs C M k n q P (.int (x ||| y) :: S) G Q) : Runs C M k n pc P (.int y :: .int x :: S) G Q :=
  Runs.stk d (fun p e s m args below meth c T locs L hx hd hP X t r => XS.ior (g := mkF m pc L (.int y :: .int x :: S)) X.here hx rfl hd rfl r) h
theorem Runs.ixor {x y : Int32} (d : DAt M pc .ixor 1 q) (h : Runs C M k n q P (.int (x ^^^ y) :: S) G Q) : Runs C M k n pc P (.int y :: .int x :: S) G Q :=
  Runs.stk d (fun p e s m args below meth c T locs L hx hd hP X t r => XS.ixor (g := mkF m pc L (.int y :: .int x :: S)) X.here hx rfl hd rfl r) h
theorem Runs.ladd {x y : Int64} (d : DAt M pc .ladd 1 q) (h : Runs C M k n q P (.long (x + y) :: S) G Q) : Runs C M k n pc P (.long y :: .long x :: S) G Q :=
  Runs.stk d (fun p e s m args below meth c T locs L hx hd hP X t r => XS.ladd (g := mkF m pc L (.long y :: .long x :: S)) X.here hx rfl hd rfl r) h
theorem Runs.lsub {x y : Int64} (d : DAt M pc .lsub 1 q) (h : Runs C M k n q P (.long (x - y) :: S) G Q) : Runs C M k n pc P (.long y :: .long x :: S) G Q :=
  Runs.stk d (fun p e s m args below meth c T locs L hx hd hP X t r => XS.lsub (g := mkF m pc L (.long y :: .long x :: S)) X.here hx rfl hd rfl r) h
theorem Runs.lmul {x y : Int64} (d : DAt M pc .lmul 1 q) (h : Runs C M k n q P (.long (x * y) :: S) G Q) : Runs C M k n pc P (.long y :: .long x :: S) G Q :=
  Runs.stk d (fun p e s m args below meth c T locs L hx hd hP X t r => XS.lmul (g := mkF m pc L (.long y :: .long x :: S)) X.here hx rfl hd rfl r) h
theorem Runs.land {x y : Int64} (d : DAt M pc .land 1 q) (h : Runs C M k n q P (.long (x &&& y) :: S) G Q) : Runs C M k n pc P (.long y :: .long x :: S) G Q :=
  Runs.stk d (fun p e s m args below meth c T locs L hx hd hP X t r => XS.land (g := mkF m pc L (.long y :: .long x :: S)) X.here hx rfl hd rfl r) h
theorem Runs.lor {x y : Int64} (d : DAt M pc .lor 1 q) (h : Runs C M k n q P (.long (x ||| y) :: S) G Q) : Runs C M k n pc P (.long y :: .long x :: S) G Q :=
  Runs.stk d (fun p e s m args below meth c T locs L hx hd hP X t r => XS.lor (g := mkF m pc L (.long y :: .long x :: S)) X.here hx rfl hd rfl r) h
theorem Runs.lxor {x y : Int64} (d : DAt M pc .lxor 1 q) (h : Runs C M k n q P (.long (x ^^^ y) :: S) G Q) : Runs C M k n pc P (.long y :: .long x :: S) G Q :=
  Runs.stk d (fun p e s m args below meth c T locs L hx hd hP X t r => XS.lxor (g := mkF m pc L (.long y :: .long x :: S)) X.here hx rfl hd rfl r) h
theorem Runs.ishl {x : Int32} {y : Int32} (d : DAt M pc .ishl 1 q) (h : Runs C M k n q P (.int (x <<< (y &&& 31)) :: S) G Q) : Runs C M k n pc P (.int y :: .int x :: S) G Q :=
  Runs.stk d (fun p e s m args below meth c T locs L hx hd hP X t r => XS.ishl (g := mkF m pc L (.int y :: .int x :: S)) X.here hx rfl hd rfl r) h
theorem Runs.ishr {x : Int32} {y : Int32} (d : DAt M pc .ishr 1 q) (h : Runs C M k n q P (.int (x >>> (y &&& 31)) :: S) G Q) : Runs C M k n pc P (.int y :: .int x :: S) G Q :=
  Runs.stk d (fun p e s m args below meth c T locs L hx hd hP X t r => XS.ishr (g := mkF m pc L (.int y :: .int x :: S)) X.here hx rfl hd rfl r) h
theorem Runs.iushr {x : Int32} {y : Int32} (d : DAt M pc .iushr 1 q) (h : Runs C M k n q P (.int ((x.toUInt32 >>> (y &&& 31).toUInt32).toInt32) :: S) G Q) : Runs C M k n pc P (.int y :: .int x :: S) G Q :=
  Runs.stk d (fun p e s m args below meth c T locs L hx hd hP X t r => XS.iushr (g := mkF m pc L (.int y :: .int x :: S)) X.here hx rfl hd rfl r) h
theorem Runs.lshl {x : Int64} {y : Int32} (d : DAt M pc .lshl 1 q) (h : Runs C M k n q P (.long (x <<< (y &&& 0x3f).toInt64) :: S) G Q) : Runs C M k n pc P (.int y :: .long x :: S) G Q :=
  Runs.stk d (fun p e s m args below meth c T locs L hx hd hP X t r => XS.lshl (g := mkF m pc L (.int y :: .long x :: S)) X.here hx rfl hd rfl r) h
theorem Runs.lshr {x : Int64} {y : Int32} (d : DAt M pc .lshr 1 q) (h : Runs C M k n q P (.long (x >>> (y &&& 0x3f).toInt64) :: S) G Q) : Runs C M k n pc P (.int y :: .long x :: S) G Q :=
  Runs.stk d (fun p e s m args below meth c T locs L hx hd hP X t r => XS.lshr (g := mkF m pc L (.int y :: .long x :: S)) X.here hx rfl hd rfl r) h
theorem Runs.lushr {x : Int64} {y : Int32} (d : DAt M pc .lushr 1 q) (h : Runs C M k n q P (.long ((x.toUInt64 >>> (y &&& 0x3f).toInt64.toUInt64).toInt64) :: S) G Q) : Runs C M k n pc P (.int y :: .long x :: S) G Q :=
  Runs.stk d (fun p e s m args below meth c T locs L hx hd hP X t r => XS.lushr (g := mkF m pc L (.int y :: .long x :: S)) X.here hx rfl hd rfl r) h
theorem Runs.ineg {x : Int32} (d : DAt M pc .ineg 1 q) (h : Runs C M k n q P (.int (-x) :: S) G Q) : Runs C M k n pc P (.int x :: S) G Q :=
  Runs.stk d (fun p e s m args below meth c T locs L hx hd hP X t r => XS.ineg (g := mkF m pc L (.int x :: S)) X.here hx rfl hd rfl r) h
theorem Runs.lneg {x : Int64} (d : DAt M pc .lneg 1 q) (h : Runs C M k n q P (.long (-x) :: S) G Q) : Runs C M k n pc P (.long x :: S) G Q :=
  Runs.stk d (fun p e s m args below meth c T locs L hx hd hP X t r => XS.lneg (g := mkF m pc L (.long x :: S)) X.here hx rfl hd rfl r) h
theorem Runs.i2l {x : Int32} (d : DAt M pc .i2l 1 q) (h : Runs C M k n q P (.long x.toInt64 :: S) G Q) : Runs C M k n pc P (.int x :: S) G Q :=
  Runs.stk d (fun p e s m args below meth c T locs L hx hd hP X t r => XS.i2l (g := mkF m pc L (.int x :: S)) X.here hx rfl hd rfl r) h
theorem Runs.l2i {x : Int64} (d : DAt M pc .l2i 1 q) (h : Runs C M k n q P (.int x.toInt32 :: S) G Q) : Runs C M k n pc P (.long x :: S) G Q :=
  Runs.stk d (fun p e s m args below meth c T locs L hx hd hP X t r => XS.l2i (g := mkF m pc L (.long x :: S)) X.here hx rfl hd rfl r) h
theorem Runs.lcmp {x y : Int64} (d : DAt M pc .lcmp 1 q) (h : Runs C M k n q P (.int (lcmpW x y) :: S) G Q) : Runs C M k n pc P (.long y :: .long x :: S) G Q :=
  Runs.stk d (fun p e s m args below meth c T locs L hx hd hP X t r => XS.lcmp (g := mkF m pc L (.long y :: .long x :: S)) X.here hx rfl hd rfl r) h
theorem Runs.idiv {x y : Int32} (d : DAt M pc .idiv 1 q) (hy : y ≠ 0) (h : Runs C M k n q P (.int (x / y) :: S) G Q) : Runs C M k n pc P (.int y :: .int x :: S) G Q :=
  Runs.stk d (fun p e s m args below meth c T locs L hx hd hP X t r => XS.idiv (g := mkF m pc L (.int y :: .int x :: S)) X.here hx rfl hd rfl hy r) h
theorem Runs.irem {x y : Int32} (d : DAt M pc .irem 1 q) (hy : y ≠ 0) (h : Runs C M k n q P (.int (x % y) :: S) G Q) : Runs C M k n pc P (.int y :: .int x :: S) G Q :=
  Runs.stk d (fun p e s m args below meth c T locs L hx hd hP X t r => iremM (g := mkF m pc L (.int y :: .int x :: S)) X hx rfl hd rfl hy r) h
theorem Runs.dup {x : Value} (d : DAt M pc .dup 1 q) (hc : x.category = 1) (h : Runs C M k n q P (x :: x :: S) G Q) : Runs C M k n pc P (x :: S) G Q :=
  Runs.stk d (fun p e s m args below meth c T locs L hx hd hP X t r => XS.dup (g := mkF m pc L (x :: S)) X.here hx rfl hd rfl hc r) h
theorem Runs.dup2 {x y : Value} (d : DAt M pc .dup2 1 q) (hc : x.category = 1) (hc' : y.category = 1) (h : Runs C M k n q P (x :: y :: x :: y :: S) G Q) : Runs C M k n pc P (x :: y :: S) G Q :=
  Runs.stk d (fun p e s m args below meth c T locs L hx hd hP X t r => Jvm.Free.XT.dup2 (g := mkF m pc L (x :: y :: S)) X.here hx rfl hd rfl hc hc' r) h
theorem Runs.pop {x : Value} (d : DAt M pc .pop 1 q) (hc : x.category = 1) (h : Runs C M k n q P S G Q) : Runs C M k n pc P (x :: S) G Q :=
  Runs.stk d (fun p e s m args below meth c T locs L hx hd hP X t r => XS.pop (g := mkF m pc L (x :: S)) X.here hx rfl hd rfl hc r) h
theorem Runs.goto {o : Int} {pc' : Nat} (d : DAt M pc (.goto o) 3 q) (ho : 0 ≤ (pc : Int) + o ∧ ((pc : Int) + o).toNat = pc') (h : Runs C M k n pc' P S G Q) : Runs C M k n pc P S G Q :=
  Runs.pure d (fun p e s m args below meth c T locs L hw hx hown hZ hd hP hsz _ X => ⟨L, hP, hsz, fun t r => XS.goto (g := mkF m pc L S) X.here hx rfl (pc0 := pc) rfl hd ho.1 ho.2 r⟩) h
theorem Runs.ifY {cd : ClassFile.Cond} {x : Int32} {o : Int} {pc' : Nat} (d : DAt M pc (.ifCond cd o) 3 q) (hc : if_icmp.holds cd x 0 = true) (ho : 0 ≤ (pc : Int) + o ∧ ((pc : Int) + o).toNat = pc') (h : Runs C M k n pc' P S G Q) : Runs C M k n pc P (.int x :: S) G Q :=
  Runs.pure d (fun p e s m args below meth c T locs L hw hx hown hZ hd hP hsz _ X => ⟨L, hP, hsz, fun t r => XS.ifYes (g := mkF m pc L (.int x :: S)) X.here hx rfl (pc0 := pc) rfl hd rfl ((if0 _ _).trans hc) ho.1 ho.2 r⟩) h
theorem Runs.ifN {cd : ClassFile.Cond} {x : Int32} {o : Int} (d : DAt M pc (.ifCond cd o) 3 q) (hc : if_icmp.holds cd x 0 = false) (h : Runs C M k n q P S G Q) : Runs C M k n pc P (.int x :: S) G Q :=
  Runs.stk d (fun p e s m args below meth c T locs L hx hd hP X t r => XS.ifNo (g := mkF m pc L (.int x :: S)) X.here hx rfl hd rfl ((if0 _ _).trans hc) r) h
theorem Runs.icY {cd : ClassFile.Cond} {x y : Int32} {o : Int} {pc' : Nat} (d : DAt M pc (.if_icmp cd o) 3 q) (hc : if_icmp.holds cd x y = true) (ho : 0 ≤ (pc : Int) + o ∧ ((pc : Int) + o).toNat = pc') (h : Runs C M k n pc' P S G Q) : Runs C M k n pc P (.int y :: .int x :: S) G Q :=
  Runs.pure d (fun p e s m args below meth c T locs L hw hx hown hZ hd hP hsz _ X => ⟨L, hP, hsz, fun t r => XS.icmpYes (g := mkF m pc L (.int y :: .int x :: S)) X.here hx rfl (pc0 := pc) rfl hd rfl hc ho.1 ho.2 r⟩) h
theorem Runs.icN {cd : ClassFile.Cond} {x y : Int32} {o : Int} (d : DAt M pc (.if_icmp cd o) 3 q) (hc : if_icmp.holds cd x y = false) (h : Runs C M k n q P S G Q) : Runs C M k n pc P (.int y :: .int x :: S) G Q :=
  Runs.stk d (fun p e s m args below meth c T locs L hx hd hP X t r => XS.icmpNo (g := mkF m pc L (.int y :: .int x :: S)) X.here hx rfl hd rfl hc r) h
theorem Runs.tswI {dflt low high : Int} {offs : Array Int} {len : Nat} {o : Int} {pc' : Nat} {i : Int32} (d : DAt M pc (.tableswitch dflt low high offs) len q) (hin : ¬ (i.toInt < low ∨ i.toInt > high)) (hoff : offs[(i.toInt - low).toNat]? = some o) (ho : 0 ≤ (pc : Int) + o ∧ ((pc : Int) + o).toNat = pc') (h : Runs C M k n pc' P S G Q) : Runs C M k n pc P (.int i :: S) G Q :=
  Runs.pure d (fun p e s m args below meth c T locs L hw hx hown hZ hd hP hsz _ X => ⟨L, hP, hsz, fun t r => XS.tswIn (g := mkF m pc L (.int i :: S)) X.here hx rfl (pc0 := pc) rfl hd rfl hin hoff ho.1 ho.2 r⟩) h
theorem Runs.tswO {dflt low high : Int} {offs : Array Int} {len : Nat} {pc' : Nat} {i : Int32} (d : DAt M pc (.tableswitch dflt low high offs) len q) (hout : i.toInt < low ∨ i.toInt > high) (ho : 0 ≤ (pc : Int) + dflt ∧ ((pc : Int) + dflt).toNat = pc') (h : Runs C M k n pc' P S G Q) : Runs C M k n pc P (.int i :: S) G Q :=
  Runs.pure d (fun p e s m args below meth c T locs L hw hx hown hZ hd hP hsz _ X => ⟨L, hP, hsz, fun t r => XS.tswOut (g := mkF m pc L (.int i :: S)) X.here hx rfl (pc0 := pc) rfl hd rfl hout ho.1 ho.2 r⟩) h
theorem Runs.istoreN {j : Fin 4} {x : Int32} (d : DAt M pc (.istore_n j) 1 q) (hi : j.val < M.2.2.1) (hP' : ps1 P j.val (.int x) = P') (h : Runs C M k n q P' S G Q) : Runs C M k n pc P (.int x :: S) G Q := by
  have hq := d.2
  subst hq hP'
  refine Runs.pure d (fun p e s m args below meth c T locs L hw hx hown hZ hd hP hsz _ X => ?_) h
  obtain ⟨L', e1, e2, e3⟩ := hP.store1 (i := j.val) (v := .int x) (by omega) rfl
  exact ⟨L', e3, e2.trans hsz, fun t r => XS.istoreN (g := mkF m pc L (.int x :: S)) X.here hx rfl hd rfl e1 r⟩
theorem Runs.istore {j : Nat} {x : Int32} (d : DAt M pc (.istore j) 2 q) (hi : j < M.2.2.1) (hP' : ps1 P j (.int x) = P') (h : Runs C M k n q P' S G Q) : Runs C M k n pc P (.int x :: S) G Q := by
  have hq := d.2
  subst hq hP'
  refine Runs.pure d (fun p e s m args below meth c T locs L hw hx hown hZ hd hP hsz _ X => ?_) h
  obtain ⟨L', e1, e2, e3⟩ := hP.store1 (i := j) (v := .int x) (by omega) rfl
  exact ⟨L', e3, e2.trans hsz, fun t r => XS.istore (g := mkF m pc L (.int x :: S)) X.here hx rfl hd rfl e1 r⟩
theorem Runs.astoreN {j : Fin 4} {x : Nat} (d : DAt M pc (.astore_n j) 1 q) (hi : j.val < M.2.2.1) (hP' : ps1 P j.val (.ref x) = P') (h : Runs C M k n q P' S G Q) : Runs C M k n pc P (.ref x :: S) G Q := by
  have hq := d.2
  subst hq hP'
  refine Runs.pure d (fun p e s m args below meth c T locs L hw hx hown hZ hd hP hsz _ X => ?_) h
  obtain ⟨L', e1, e2, e3⟩ := hP.store1 (i := j.val) (v := .ref x) (by omega) rfl
  exact ⟨L', e3, e2.trans hsz, fun t r => XS.astoreN (g := mkF m pc L (.ref x :: S)) X.here hx rfl hd rfl rfl e1 r⟩
theorem Runs.astore {j : Nat} {x : Nat} (d : DAt M pc (.astore j) 2 q) (hi : j < M.2.2.1) (hP' : ps1 P j (.ref x) = P') (h : Runs C M k n q P' S G Q) : Runs C M k n pc P (.ref x :: S) G Q := by
  have hq := d.2
  subst hq hP'
  refine Runs.pure d (fun p e s m args below meth c T locs L hw hx hown hZ hd hP hsz _ X => ?_) h
  obtain ⟨L', e1, e2, e3⟩ := hP.store1 (i := j) (v := .ref x) (by omega) rfl
  exact ⟨L', e3, e2.trans hsz, fun t r => XS.astore (g := mkF m pc L (.ref x :: S)) X.here hx rfl hd rfl rfl e1 r⟩
theorem Runs.lstoreN {j : Fin 4} {x : Int64} (d : DAt M pc (.lstore_n j) 1 q) (hi : j.val + 1 < M.2.2.1) (hP' : ps2 P j.val (.long x) = P') (h : Runs C M k n q P' S G Q) : Runs C M k n pc P (.long x :: S) G Q := by
  have hq := d.2
  subst hq hP'
  refine Runs.pure d (fun p e s m args below meth c T locs L hw hx hown hZ hd hP hsz _ X => ?_) h
  obtain ⟨L', e1, e2, e3⟩ := hP.store2 (i := j.val) (v := .long x) (by omega) rfl
  exact ⟨L', e3, e2.trans hsz, fun t r => XS.lstoreN (g := mkF m pc L (.long x :: S)) X.here hx rfl hd rfl e1 r⟩
theorem Runs.lstore {j : Nat} {x : Int64} (d : DAt M pc (.lstore j) 2 q) (hi : j + 1 < M.2.2.1) (hP' : ps2 P j (.long x) = P') (h : Runs C M k n q P' S G Q) : Runs C M k n pc P (.long x :: S) G Q := by
  have hq := d.2
  subst hq hP'
  refine Runs.pure d (fun p e s m args below meth c T locs L hw hx hown hZ hd hP hsz _ X => ?_) h
  obtain ⟨L', e1, e2, e3⟩ := hP.store2 (i := j) (v := .long x) (by omega) rfl
  exact ⟨L', e3, e2.trans hsz, fun t r => XS.lstore (g := mkF m pc L (.long x :: S)) X.here hx rfl hd rfl e1 r⟩
theorem Runs.iinc {j : Nat} {cst : Int} {x v : Int32} (d : DAt M pc (.iinc j cst) 3 q) (hv : Int32.ofInt cst = v) (hl : pget P j = vi x) (hi : j < M.2.2.1) (hP' : ps1 P j (.int (x + v)) = P') (h : Runs C M k n q P' S G Q) : Runs C M k n pc P S G Q := by
  have hq := d.2
  subst hq hP' hv
  refine Runs.pure d (fun p e s m args below meth c T locs L hw hx hown hZ hd hP hsz _ X => ?_) h
  obtain ⟨L', e1, e2, e3⟩ := hP.store1 (i := j) (v := .int (x + Int32.ofInt cst)) (by omega) rfl
  exact ⟨L', e3, e2.trans hsz, fun t r => XS.iinc (g := mkF m pc L S) X.here hx rfl hd (hP.1 _ _ hl) e1 r⟩
/-- less is known of the locals -/
def psub : Pat → Pat → Prop
  | [], _ => True
  | none :: l, _ :: l' => psub l l'
  | some s :: l, y :: l' => y = some s ∧ psub l l'
  | none :: l, [] => psub l []
  | some _ :: _, [] => False
theorem psub_get : ∀ (P P' : Pat), psub P P' → ∀ i s, pget P i = some s → pget P' i = some s
  | [], _, _, i, s, h => by simp [pget] at h
  | none :: l, _ :: l', H, 0, s, h => by simp [pget] at h
  | none :: l, _ :: l', H, i + 1, s, h => psub_get l l' H i s h
  | some x :: l, y :: l', H, 0, s, h => by rw [show y = some x from H.1]; exact h
  | some x :: l, y :: l', H, i + 1, s, h => psub_get l l' H.2 i s h
  | none :: l, [], H, 0, s, h => by simp [pget] at h
  | none :: l, [], H, i + 1, s, h => by have := psub_get l [] H i s h; simp [pget] at this
  | some _ :: _, [], H, _, _, _ => H.elim
theorem Runs.weak (hP : psub P' P) (h : Runs C M k n pc P' S G Q) : Runs C M k n pc P S G Q := by
  intro hw p e s m args below meth c T locs L hx hby hml hret hnm hown hZ hf
  exact h hw p e s m args below meth c T locs L hx hby hml hret hnm hown hZ ⟨fun i s hi => hf.1 i s (psub_get _ _ hP i s hi), hf.2⟩
theorem Runs.swap {top : Nat} {x y : Nat × Nat × Rec} {H : List (Nat × Nat × Rec)} (h : Runs C M k n pc P S (top, y :: x :: H) Q) : Runs C M k n pc P S (top, x :: y :: H) Q := by
  intro hw p e s m args below meth c T locs L hx hby hml hret hnm hown hZ hf hsz X hR hF
  exact h hw p e s m args below meth c T locs L hx hby hml hret hnm hown hZ hf hsz X hR.swap hF
end Rules
/- the steps that touch the heap -/
section Made
variable {p : Program} {l : Launch} {e : Env} {R : Room} {s : State} {m : MethodId} {args : Array Value} {below : List Frame} {meth : Method} {c : Code} {T : State} {locs : List Loc} {cells slots : Nat} {Z : State} {a0 : Array Value}
theorem ext_push (h : Heap) (x : Cell) : Ext h (h.push x) := ⟨by simp, fun a c q => by rw [Array.getElem?_push_lt (Array.getElem?_eq_some_iff.mp q).1]; exact (Array.getElem?_eq_getElem _).symm.trans q⟩
/-- 'new', with the heap's size behind it -/
theorem new1 (X : Stand p l e R s m args below meth c T locs cells slots) (hx : p.tables.exec = Jvm.exec) (hZ : Z.Warmed39 s.vm) {own C : String} {index n : Nat} (hown : s.vm.findClass own = some m.cls) (w : (Jvm.Cond.classLink own index C).before a0 Z = true) (wi : (Jvm.Cond.instantiable C n).before a0 Z = true) (wz : (Jvm.Cond.initialized C).before a0 Z = true)
    {g : JFrame} (hg : g.method = m) (hd : decode c.code g.pc = .ok (.new index, 3)) (hc : cells + 1 ≤ R.cells) (hl : slots + n ≤ R.slots) :
    ∃ T', Stand p l e R s m args below meth c T' locs (cells + 1) (slots + n) ∧ T'.heap.size = T.heap.size + 1 ∧ Ext T.heap T'.heap ∧ Exa Z T'.heap T.heap.size C ∧ (∀ {O nm d : String} {ty : FieldType}, Laid Z a0 C O nm d → parseFieldDescriptor d = some ty → Fld Z T'.heap T.heap.size O nm d (defaultValue ty)) ∧
      ∀ target, Steps p.tables e below (T'.setTop { g with pc := g.pc + 3, stack := .ref T.heap.size :: g.stack }) target → Steps p.tables e below (T.setTop g) target := by
  obtain ⟨vm', cC, kC, h1, h2, h3, h4, X', st⟩ := X.newCold hx hown (mv hZ w) (mv hZ wi) (mv hZ wz) hg hd hc hl
  rw [hZ.alike.findClass] at h1
  obtain ⟨kZ, z1, -⟩ := Vm.findClass_spec h1
  obtain ⟨k', z2, z3⟩ := hZ.alike.2.2 _ _ z1
  have ek : kC.instanceTypes = kZ.instanceTypes := by rw [Option.some.inj (h2.symm.trans z2), z3]
  obtain ⟨cell, hcell⟩ : ∃ cell : Cell, cell = { cls := cC, slots := kC.instanceTypes.map defaultValue, vm := .none } := ⟨_, rfl⟩
  rw [← hcell] at X' st
  have hp : ((T.setVm vm').pushCell cell).heap = T.heap.push cell := rfl
  have at' : (T.heap.push cell)[T.heap.size]? = some cell := by simp
  refine ⟨_, X', by rw [hp]; simp, by rw [hp]; exact ext_push _ _, ?_, fun {O nm d ty} L ht => ?_, st⟩
  · rw [hp]; exact ⟨cell, kZ, at', by rw [hcell]; exact h1, by rw [hcell]; exact z1, by rw [hcell]; rfl, fun _ => by rw [hcell]; simp [ek]⟩
  · rw [hp]
    obtain ⟨c1, k1, cf, kf, i, f, a1, a2, a3, a4, a5, a6, -⟩ := L.spec
    cases h1.symm.trans a1
    cases z1.symm.trans a2
    refine ⟨cell, cf, kf, i, f, at', a3, a4, by rw [hcell]; simp, by rw [hcell]; rfl, by rw [hcell]; exact a5, ?_⟩
    rw [hcell]; simp [ek, a6, (State.fieldFound?_type a3 ht).2]
theorem newArr1 (X : Stand p l e R s m args below meth c T locs cells slots) (hx : p.tables.exec = Jvm.exec) (hZ : Z.Warmed39 s.vm) {aty : ArrayType} (w : (Jvm.Cond.arrayClass (newarray.typeOf aty)).before a0 Z = true) {g : JFrame} (hg : g.method = m) (hd : decode c.code g.pc = .ok (.newarray aty, 2)) {n : Int32} {rest : List Value} (hs : g.stack = .int n :: rest)
    (hn : ¬ n < 0) (hb : n.toNatClampNeg * 8 ≤ 536870912) (hc : cells + 1 ≤ R.cells) (hl : slots + n.toNatClampNeg ≤ R.slots) :
    ∃ T' cA, Stand p l e R s m args below meth c T' locs (cells + 1) (slots + n.toNatClampNeg) ∧ T'.heap.size = T.heap.size + 1 ∧ Ext T.heap T'.heap ∧ Arr Z T'.heap T.heap.size (newA cA (newarray.typeOf aty) n) (newarray.typeOf aty) ∧
      ∀ target, Steps p.tables e below (T'.setTop { g with pc := g.pc + 2, stack := .ref T.heap.size :: rest }) target → Steps p.tables e below (T.setTop g) target := by
  have hcb : componentBytes (newarray.typeOf aty) ≤ 8 := by cases aty <;> decide
  obtain ⟨cA, kA, comp, h1, h2, h3, X', st⟩ := X.newarrayPrim hx (mvA hZ w) hg hd hs hn (Nat.le_trans (Nat.mul_le_mul_left _ hcb) hb) hc hl
  rw [hZ.alike.findClass] at h1
  obtain ⟨kZ, z1, -⟩ := Vm.findClass_spec h1
  obtain ⟨k', z2, z3⟩ := hZ.alike.2.2 _ _ z1
  have ek : kA.kind = kZ.kind := by rw [Option.some.inj (h2.symm.trans z2), z3]
  have hp : (T.pushCell (newA cA (newarray.typeOf aty) n)).heap = T.heap.push (newA cA (newarray.typeOf aty) n) := rfl
  refine ⟨T.pushCell (newA cA (newarray.typeOf aty) n), cA, X', by rw [hp]; simp, by rw [hp]; exact ext_push _ _, ?_, st⟩
  rw [hp]
  exact ⟨by simp, ⟨by simp [newA], kZ, z1, comp, by rw [← ek]; exact h3⟩, by simp [newA]⟩
end Made
section Heap
variable {C : Ctx} {M : Bdy} {k n pc q : Nat} {P P' : Pat} {S S' : List Value} {G : AH} {Q : Option Value → AH → Prop} {top : Nat} {a : Nat} {qq j idx : Nat} {ob : Rec} {H : List (Nat × Nat × Rec)} {nm ds : String}
theorem Runs.getI (d : DAt M pc (.getfield idx) 3 q) (w : Jvm.Cond.fieldLink M.1.cls idx K.1 nm ds ∈ tables_1) (hk : K.2.1[j]? = some (nm, ds)) (h : Runs C M k n q P (.int (gI ob j) :: S) (top, (a, qq, ob) :: H) Q) : Runs C M k n pc P (.ref a :: S) (top, (a, qq, ob) :: H) Q := by
  intro hw p e s m args below meth c T locs L hx hby hml hret hnm hown hZ hf hsz X hR hF
  have hq := d.2
  subst hq
  obtain ⟨T1, X1, e1, st1⟩ := getF X hx hZ hown (host := "") (Or.inl (hw _ w)) Via.refl rfl (hR.objs.2.2.2.1 j _ hk) (g := mkF m pc L (.ref a :: S)) rfl rfl (hb hby d.1)
  obtain ⟨T', locs', k', n', r, G', g1, g2, g3, g4, g5, g6, g7, g8⟩ := h hw p e s m args below meth c T1 locs L hx hby hml hret hnm hown hZ hf hsz X1 (by rw [e1]; exact hR) hF
  exact ⟨T', locs', k', n', r, G', g1, g2, g3, g4, g5, g6, g7, fun fs hr => st1 _ (g8 fs hr)⟩
theorem Runs.getA {ty : FieldType} {len : Int32} (d : DAt M pc (.getfield idx) 3 q) (hk : K.2.2[j]? = some (nm, ty, len)) (w : Jvm.Cond.fieldLink M.1.cls idx K.1 nm (aD ty) ∈ tables_1) (hq : j < qq) (h : Runs C M k n q P (.ref (a + 1 + j) :: S) (top, (a, qq, ob) :: H) Q) : Runs C M k n pc P (.ref a :: S) (top, (a, qq, ob) :: H) Q := by
  intro hw p e s m args below meth c T locs L hx hby hml hret hnm hown hZ hf hsz X hR hF
  have hqq := d.2
  subst hqq
  obtain ⟨T1, X1, e1, st1⟩ := getF X hx hZ hown (host := "") (Or.inl (hw _ w)) Via.refl rfl (hR.objs.2.2.2.2.1 j _ hk hq).1 (g := mkF m pc L (.ref a :: S)) rfl rfl (hb hby d.1)
  obtain ⟨T', locs', k', n', r, G', g1, g2, g3, g4, g5, g6, g7, g8⟩ := h hw p e s m args below meth c T1 locs L hx hby hml hret hnm hown hZ hf hsz X1 (by rw [e1]; exact hR) hF
  exact ⟨T', locs', k', n', r, G', g1, g2, g3, g4, g5, g6, g7, fun fs hr => st1 _ (g8 fs hr)⟩
theorem lw_of {Z : State} {a0 : Array Value} {meth : Method} (hw : ∀ d ∈ tables_1, d.before a0 Z = true) {C O n d own : String} (h : Jvm.Cond.lays C O n d ∈ tables_1 ∨ Jvm.Cond.laysFinal C O n d ∈ tables_1) (hc : Jvm.Cond.lays C O n d ∈ tables_1 ∨ (own = O ∧ meth.name = "<init>")) : (Jvm.Cond.lays C O n d).before a0 Z = true ∨ ((Jvm.Cond.laysFinal C O n d).before a0 Z = true ∧ own = O ∧ meth.name = "<init>") := by
  rcases hc with hc | hc
  · exact Or.inl (hw _ hc)
  · exact h.imp (hw _) (fun u => ⟨hw _ u, hc⟩)
/-- a field that may be written here: not final, or in a constructor of its class -/
def Mine (M : Bdy) (nm ds : String) : Prop := Jvm.Cond.lays K.1 K.1 nm ds ∈ tables_1 ∨ (M.1.cls = K.1 ∧ M.1.name = "<init>")
theorem Runs.putI {x : Int32} (d : DAt M pc (.putfield idx) 3 q) (w : Jvm.Cond.fieldLink M.1.cls idx K.1 nm "I" ∈ tables_1) (hk : K.2.1[j]? = some (nm, "I")) (hm : Mine M nm "I") (h : Runs C M k n q P S (top, (a, qq, sI ob j x) :: H) Q) : Runs C M k n pc P (.int x :: .ref a :: S) (top, (a, qq, ob) :: H) Q := by
  intro hw p e s m args below meth c T locs L hx hby hml hret hnm hown hZ hf hsz X hR hF
  have hqq := d.2
  subst hqq
  obtain ⟨T1, h1, X1, e1, W1, st1⟩ := putF X hx hZ hown (host := "") (Or.inl (hw _ w)) Via.refl rfl (hR.objs.2.2.2.1 j _ hk) hR.objs.2.2.1 (lw_of hw ((All.mem kS (List.mem_of_getElem? hk)).1) (hm.imp id (fun u => ⟨u.1, hnm.trans u.2⟩))) (hw _ kI) (ty := .int) (by decide) rfl rfl (g := mkF m pc L (.int x :: .ref a :: S)) rfl rfl (hb hby d.1)
  obtain ⟨T', locs', k', n', r, G', g1, g2, g3, g4, g5, g6, g7, g8⟩ := h hw p e s m args below meth c T1 _ L hx hby hml hret hnm hown hZ hf hsz X1 (by rw [e1]; exact hR.putI hw hk W1) (Fr.snoc X1 hF hR.objs.1)
  exact ⟨T', locs', k', n', r, G', g1, g2, g3, g4, g5, g6, g7, fun fs hr => st1 _ (g8 fs hr)⟩
theorem Runs.putZ {x y : Int32} (d : DAt M pc (.putfield idx) 3 q) (w : Jvm.Cond.fieldLink M.1.cls idx K.1 nm "Z" ∈ tables_1) (hk : K.2.1[j]? = some (nm, "Z")) (hm : Mine M nm "Z") (hy : nar .boolean x = y) (h : Runs C M k n q P S (top, (a, qq, sI ob j y) :: H) Q) : Runs C M k n pc P (.int x :: .ref a :: S) (top, (a, qq, ob) :: H) Q := by
  subst hy
  intro hw p e s m args below meth c T locs L hx hby hml hret hnm hown hZ hf hsz X hR hF
  have hqq := d.2
  subst hqq
  obtain ⟨T1, h1, X1, e1, W1, st1⟩ := putFN X hx hZ hown (hw _ w) Via.refl rfl (hR.objs.2.2.2.1 j _ hk) hR.objs.2.2.1 (lw_of hw ((All.mem kS (List.mem_of_getElem? hk)).1) (hm.imp id (fun u => ⟨u.1, hnm.trans u.2⟩))) (hw _ kI) (ty := .boolean) (v' := .int (nar .boolean x)) (by decide) rfl (fits_nar_bool _) (g := mkF m pc L (.int x :: .ref a :: S)) rfl rfl (hb hby d.1)
  obtain ⟨T', locs', k', n', r, G', g1, g2, g3, g4, g5, g6, g7, g8⟩ := h hw p e s m args below meth c T1 _ L hx hby hml hret hnm hown hZ hf hsz X1 (by rw [e1]; exact hR.putI hw hk W1) (Fr.snoc X1 hF hR.objs.1)
  exact ⟨T', locs', k', n', r, G', g1, g2, g3, g4, g5, g6, g7, fun fs hr => st1 _ (g8 fs hr)⟩
theorem Runs.ialoadA {i len : Int32} (d : DAt M pc .iaload 1 q) (hk : K.2.2[j]? = some (nm, .int, len)) (hq : j < qq) (hi : ¬ i < 0 ∧ i < len) (h : Runs C M k n q P (.int (gA ob j i) :: S) (top, (a, qq, ob) :: H) Q) : Runs C M k n pc P (.int i :: .ref (a + 1 + j) :: S) (top, (a, qq, ob) :: H) Q := by
  have hqq := d.2
  subst hqq
  refine Runs.pure d (fun p e s m args below meth c T locs L hw hx hown hZ hd hP hsz hR X => ⟨L, hP, hsz, fun t r => ?_⟩) h
  obtain ⟨cl, A, Sz, V⟩ := (hR.objs.2.2.2.2.1 j _ hk hq).2
  exact X.iaload hx (j := i) (v := .int (gA ob j i)) A.1 (State.isArrayOf_alike hZ.alike A.2.1) A.2.2 (inb_of Sz hi) (V i hi.1 hi.2) (g := mkF m pc L (.int i :: .ref (a + 1 + j) :: S)) rfl rfl hd _ r
theorem Runs.baloadA {i len : Int32} (d : DAt M pc .baload 1 q) (hk : K.2.2[j]? = some (nm, .boolean, len)) (hq : j < qq) (hi : ¬ i < 0 ∧ i < len) (h : Runs C M k n q P (.int (gA ob j i) :: S) (top, (a, qq, ob) :: H) Q) : Runs C M k n pc P (.int i :: .ref (a + 1 + j) :: S) (top, (a, qq, ob) :: H) Q := by
  have hqq := d.2
  subst hqq
  refine Runs.pure d (fun p e s m args below meth c T locs L hw hx hown hZ hd hP hsz hR X => ⟨L, hP, hsz, fun t r => ?_⟩) h
  obtain ⟨cl, A, Sz, V⟩ := (hR.objs.2.2.2.2.1 j _ hk hq).2
  exact X.baloadBooleans hx (j := i) (v := .int (gA ob j i)) A.1 (State.isArrayOf_alike hZ.alike A.2.1) A.2.2 (inb_of Sz hi) (V i hi.1 hi.2) (g := mkF m pc L (.int i :: .ref (a + 1 + j) :: S)) rfl rfl hd _ r
theorem Runs.laloadA {i len : Int32} (d : DAt M pc .laload 1 q) (hk : K.2.2[j]? = some (nm, .long, len)) (hq : j < qq) (hi : ¬ i < 0 ∧ i < len) (h : Runs C M k n q P (.long (gJ ob j i) :: S) (top, (a, qq, ob) :: H) Q) : Runs C M k n pc P (.int i :: .ref (a + 1 + j) :: S) (top, (a, qq, ob) :: H) Q := by
  have hqq := d.2
  subst hqq
  refine Runs.pure d (fun p e s m args below meth c T locs L hw hx hown hZ hd hP hsz hR X => ⟨L, hP, hsz, fun t r => ?_⟩) h
  obtain ⟨cl, A, Sz, V⟩ := (hR.objs.2.2.2.2.1 j _ hk hq).2
  exact X.laload hx (j := i) (v := .long (gJ ob j i)) A.1 (State.isArrayOf_alike hZ.alike A.2.1) A.2.2 (inb_of Sz hi) (V i hi.1 hi.2) (g := mkF m pc L (.int i :: .ref (a + 1 + j) :: S)) rfl rfl hd _ r
theorem Runs.iastoreA {i x len : Int32} (d : DAt M pc .iastore 1 q) (hk : K.2.2[j]? = some (nm, .int, len)) (hq : j < qq) (hi : ¬ i < 0 ∧ i < len) (h : Runs C M k n q P S (top, (a, qq, sA ob j i x) :: H) Q) : Runs C M k n pc P (.int x :: .int i :: .ref (a + 1 + j) :: S) (top, (a, qq, ob) :: H) Q := by
  intro hw p e s m args below meth c T locs L hx hby hml hret hnm hown hZ hf hsz X hR hF
  have hqq := d.2
  subst hqq
  obtain ⟨cl, A, Sz, V⟩ := (hR.objs.2.2.2.2.1 j _ hk hq).2
  obtain ⟨T1, h1, X1, e1, W1, st1⟩ := stI X hx hZ rfl A (j := i) (x := x) (inb_of Sz hi) (g := mkF m pc L (.int x :: .int i :: .ref (a + 1 + j) :: S)) rfl rfl (hb hby d.1)
  obtain ⟨T', locs', k', n', r, G', g1, g2, g3, g4, g5, g6, g7, g8⟩ := h hw p e s m args below meth c T1 _ L hx hby hml hret hnm hown hZ hf hsz X1 (by rw [e1]; exact hR.putA hk hq (by simp) hi W1) (Fr.snoc X1 hF (by have := hR.objs.1; omega))
  exact ⟨T', locs', k', n', r, G', g1, g2, g3, g4, g5, g6, g7, fun fs hr => st1 _ (g8 fs hr)⟩
theorem Runs.bastoreA {i x len : Int32} (d : DAt M pc .bastore 1 q) (hk : K.2.2[j]? = some (nm, .boolean, len)) (hq : j < qq) (hi : ¬ i < 0 ∧ i < len) {y : Int32} (hy : nar .boolean x = y) (h : Runs C M k n q P S (top, (a, qq, sA ob j i y) :: H) Q) : Runs C M k n pc P (.int x :: .int i :: .ref (a + 1 + j) :: S) (top, (a, qq, ob) :: H) Q := by
  subst hy
  intro hw p e s m args below meth c T locs L hx hby hml hret hnm hown hZ hf hsz X hR hF
  have hqq := d.2
  subst hqq
  obtain ⟨cl, A, Sz, V⟩ := (hR.objs.2.2.2.2.1 j _ hk hq).2
  obtain ⟨T1, h1, X1, e1, W1, st1⟩ := stZ X hx hZ rfl A (j := i) (x := x) (inb_of Sz hi) (g := mkF m pc L (.int x :: .int i :: .ref (a + 1 + j) :: S)) rfl rfl (hb hby d.1)
  obtain ⟨T', locs', k', n', r, G', g1, g2, g3, g4, g5, g6, g7, g8⟩ := h hw p e s m args below meth c T1 _ L hx hby hml hret hnm hown hZ hf hsz X1 (by rw [e1]; exact hR.putA hk hq (by simp) hi W1) (Fr.snoc X1 hF (by have := hR.objs.1; omega))
  exact ⟨T', locs', k', n', r, G', g1, g2, g3, g4, g5, g6, g7, fun fs hr => st1 _ (g8 fs hr)⟩
theorem Runs.lastoreA {i len : Int32} {x : Int64} (d : DAt M pc .lastore 1 q) (hk : K.2.2[j]? = some (nm, .long, len)) (hq : j < qq) (hi : ¬ i < 0 ∧ i < len) (h : Runs C M k n q P S (top, (a, qq, sJ ob j i x) :: H) Q) : Runs C M k n pc P (.long x :: .int i :: .ref (a + 1 + j) :: S) (top, (a, qq, ob) :: H) Q := by
  intro hw p e s m args below meth c T locs L hx hby hml hret hnm hown hZ hf hsz X hR hF
  have hqq := d.2
  subst hqq
  obtain ⟨cl, A, Sz, V⟩ := (hR.objs.2.2.2.2.1 j _ hk hq).2
  obtain ⟨T1, h1, X1, e1, W1, st1⟩ := stJ X hx hZ rfl A (j := i) (x := x) (inb_of Sz hi) (g := mkF m pc L (.long x :: .int i :: .ref (a + 1 + j) :: S)) rfl rfl (hb hby d.1)
  obtain ⟨T', locs', k', n', r, G', g1, g2, g3, g4, g5, g6, g7, g8⟩ := h hw p e s m args below meth c T1 _ L hx hby hml hret hnm hown hZ hf hsz X1 (by rw [e1]; exact hR.putJ hk hq rfl hi W1) (Fr.snoc X1 hF (by have := hR.objs.1; omega))
  exact ⟨T', locs', k', n', r, G', g1, g2, g3, g4, g5, g6, g7, fun fs hr => st1 _ (g8 fs hr)⟩
/-- the script: an array that stood before the law began -/
def ScrF (C : Ctx) (sa : Nat) (z : Int32) (f : Int32 → Int32) : Prop := ∃ cl : Cell, Scr C.2.1 C.2.1.heap sa cl z ∧ f = atv cl
theorem Runs.lenS {sa : Nat} {z : Int32} {f : Int32 → Int32} (hs : ScrF C sa z f) (d : DAt M pc .arraylength 1 q) (h : Runs C M k n q P (.int z :: S) G Q) : Runs C M k n pc P (.ref sa :: S) G Q := by
  have hqq := d.2
  subst hqq
  refine Runs.pure d (fun p e s m args below meth c T locs L hw hx hown hZ hd hP hsz hR X => ⟨L, hP, hsz, fun t r => ?_⟩) h
  obtain ⟨cl, F, -⟩ := hs
  obtain ⟨A, Sz, N, V⟩ := F.ext hR.2.1.2
  exact X.arraylength hx A.1 (State.isArrayOf_alike hZ.alike A.2.1) (g := mkF m pc L (.ref sa :: S)) rfl rfl hd _ (by rw [len_of Sz N]; exact r)
theorem Runs.ialoadS {sa : Nat} {z i : Int32} {f : Int32 → Int32} (hs : ScrF C sa z f) (d : DAt M pc .iaload 1 q) (hi : ¬ i < 0 ∧ i < z) (h : Runs C M k n q P (.int (f i) :: S) G Q) : Runs C M k n pc P (.int i :: .ref sa :: S) G Q := by
  have hqq := d.2
  subst hqq
  refine Runs.pure d (fun p e s m args below meth c T locs L hw hx hown hZ hd hP hsz hR X => ⟨L, hP, hsz, fun t r => ?_⟩) h
  obtain ⟨cl, F, rfl⟩ := hs
  obtain ⟨A, Sz, N, V⟩ := F.ext hR.2.1.2
  exact X.iaload hx (j := i) (v := .int (atv cl i)) A.1 (State.isArrayOf_alike hZ.alike A.2.1) A.2.2 (inb_of Sz hi) (V i (inb_of Sz hi)) (g := mkF m pc L (.int i :: .ref sa :: S)) rfl rfl hd _ r
/- leaving -/
theorem Runs.retI {v : Int32} (d : DAt M pc .ireturn 1 q) (hret : M.2.2.2.1 = some .int) (hk : k ≤ M.2.2.2.2.cells ∧ n ≤ M.2.2.2.2.slots) (hQ : Q (some (.int v)) G) : Runs C M k n pc P (.int v :: S) G Q := by
  intro hw p e s m args below meth c T locs L hx hby hml hr0 hnm hown hZ hf hsz X hR hF
  exact ⟨T, locs, k, n, _, G, X, hk.1, hk.2, hR, hF, hQ, (fun u => by rw [hret] at u; cases u), fun fs hr => Jvm.RoadKit.retI X hx (hr0.trans hret) (hb hby d.1) hr⟩
theorem Runs.retZ {v : Int32} (d : DAt M pc .ireturn 1 q) (hret : M.2.2.2.1 = some .boolean) (hk : k ≤ M.2.2.2.2.cells ∧ n ≤ M.2.2.2.2.slots) {y : Int32} (hy : nar .boolean v = y) (hQ : Q (some (.int y)) G) : Runs C M k n pc P (.int v :: S) G Q := by
  subst hy
  intro hw p e s m args below meth c T locs L hx hby hml hr0 hnm hown hZ hf hsz X hR hF
  exact ⟨T, locs, k, n, _, G, X, hk.1, hk.2, hR, hF, hQ, (fun u => by rw [hret] at u; cases u), fun fs hr => retN X hx (t := .boolean) (hr0.trans hret) (by simp) (hb hby d.1) hr⟩
theorem Runs.retJ {v : Int64} (d : DAt M pc .lreturn 1 q) (hret : M.2.2.2.1 = some .long) (hk : k ≤ M.2.2.2.2.cells ∧ n ≤ M.2.2.2.2.slots) (hQ : Q (some (.long v)) G) : Runs C M k n pc P (.long v :: []) G Q := by
  intro hw p e s m args below meth c T locs L hx hby hml hr0 hnm hown hZ hf hsz X hR hF
  exact ⟨T, locs, k, n, _, G, X, hk.1, hk.2, hR, hF, hQ, (fun u => by rw [hret] at u; cases u), fun fs hr => X.lreturnOut hx (hr0.trans hret) (hb hby d.1) hr⟩
theorem Runs.retV (d : DAt M pc .return_ 1 q) (hret : M.2.2.2.1 = none) (hk : k ≤ M.2.2.2.2.cells ∧ n ≤ M.2.2.2.2.slots) (hQ : Q none G) : Runs C M k n pc P [] G Q := by
  intro hw p e s m args below meth c T locs L hx hby hml hr0 hnm hown hZ hf hsz X hR hF
  exact ⟨T, locs, k, n, _, G, X, hk.1, hk.2, hR, hF, hQ, (fun _ => rfl), fun fs hr => X.returnOut hx (hr0.trans hret) (hb hby d.1) hr⟩
/- a new object, and the arrays that its constructor makes -/
theorem Runs.newK (d : DAt M pc (.new idx) 3 q) (w : Jvm.Cond.classLink M.1.cls idx K.1 ∈ tables_1) (hc : k + 1 ≤ M.2.2.2.2.cells ∧ n + kN ≤ M.2.2.2.2.slots) {k' n' : Nat} (hk' : k + 1 = k') (hn' : n + kN = n') {H : List (Nat × Nat × Rec)} (hd : ∀ x ∈ H, x.1 + x.2.1 < top) (h : Runs C M k' n' q P (.ref top :: S) (top + 1, (top, 0, zrec) :: H) Q) : Runs C M k n pc P S (top, H) Q := by
  subst hk' hn'
  intro hw p e s m args below meth c T locs L hx hby hml hr0 hnm hown hZ hf hsz X hR hF
  have hqq := d.2
  subst hqq
  obtain ⟨T2, X2, s2, E2, A2, D2, st2⟩ := new1 X hx hZ hown (hw _ w) (hw _ kI) (hw _ kZ) (g := mkF m pc L S) rfl (hb hby d.1) hc.1 hc.2
  have hs : T.heap.size = top := hR.1
  rw [hs] at A2 D2 st2 s2
  have hR2 : Rep C.2.1 C.2.2.1 T2.heap (top + 1, (top, 0, zrec) :: H) := by
    refine ⟨s2, hR.2.1.ext E2, fun x hx' => ?_, ?_⟩
    · rcases List.mem_cons.mp hx' with rfl | hx'
      · refine ⟨?_, by simp, A2, fun k nd hk => ?_, fun k t hk hq => by simp at hq, fun k t hk hq => ?_⟩
        · have := hR.2.1.2.1; rw [hR.2.1.1] at this; simp only; omega
        · rcases (All.mem kS (List.mem_of_getElem? hk)).2 with e | e
          · have := D2 (laidS hw hk) (ty := .int) (by rw [e]; decide); exact this
          · have := D2 (laidS hw hk) (ty := .boolean) (by rw [e]; decide); exact this
        · have := D2 (laidA hw hk) (pfA hk); exact this
      · obtain ⟨p1, p2, p3⟩ := hR.2.2.1 x hx'
        exact ⟨p1, by simp only at p2 ⊢; omega, p3.ext E2⟩
    · exact List.pairwise_cons.mpr ⟨fun y hy => Or.inr (hd y hy), hR.2.2.2⟩
  obtain ⟨T', locs', k', n', r, G', g1, g2, g3, g4, g5, g6, g7, g8⟩ := h hw p e s m args below meth c T2 _ L hx hby hml hr0 hnm hown hZ hf hsz X2 hR2 hF
  exact ⟨T', locs', k', n', r, G', g1, g2, g3, g4, g5, g6, g7, fun fs hr => st2 _ (g8 fs hr)⟩
/-- newarray and the putfield behind it: the next array of an object that is being made -/
theorem Runs.newArr {aty : ArrayType} {ty : FieldType} {len : Int32} {q1 : Nat} (d : DAt M pc (.newarray aty) 2 q1) (d' : DAt M q1 (.putfield idx) 3 q) (hk : K.2.2[j]? = some (nm, ty, len)) (w : Jvm.Cond.fieldLink M.1.cls idx K.1 nm (aD ty) ∈ tables_1) (ht : newarray.typeOf aty = ty) (wa : Jvm.Cond.arrayClass ty ∈ tables_1) (hm : Mine M nm (aD ty))
    (htop : top = a + 1 + j) (hlen : ¬ len < 0 ∧ len.toNatClampNeg * 8 ≤ 536870912) (hc : k + 1 ≤ M.2.2.2.2.cells ∧ n + len.toNatClampNeg ≤ M.2.2.2.2.slots) (hz : (∀ i, ob.2.1 j i = 0) ∧ (∀ i, ob.2.2 j i = 0)) {j' top' k' n' : Nat} (hj' : j + 1 = j') (ht' : top + 1 = top') (hk' : k + 1 = k') (hn' : n + len.toNatClampNeg = n')
    (h : Runs C M k' n' q P S (top', (a, j', ob) :: H) Q) : Runs C M k n pc P (.int len :: .ref a :: S) (top, (a, j, ob) :: H) Q := by
  subst hj' ht' hk' hn'
  intro hw p e s m args below meth c T locs L hx hby hml hr0 hnm hown hZ hf hsz X hR hF
  have hqq := d.2
  have hqq' := d'.2
  subst hqq hqq' ht
  obtain ⟨T1, cA, X1, s1, E1, A1, st1⟩ := newArr1 X hx hZ (hw _ wa) (g := mkF m pc L (.int len :: .ref a :: S)) rfl (hb hby d.1) rfl hlen.1 hlen.2 hc.1 hc.2
  have hs : T.heap.size = top := hR.1
  rw [hs] at A1 st1 s1
  have O1 := hR.objs.2.2.ext E1
  obtain ⟨T2, h2, X2, e2, W2, st2⟩ := putF X1 hx hZ hown (host := "") (Or.inl (hw _ w)) Via.refl rfl (O1.2.2.2 j _ hk (Nat.le_refl _)) O1.1 (lw_of hw ((All.mem kA (List.mem_of_getElem? hk)).1) (hm.imp id (fun u => ⟨u.1, hnm.trans u.2⟩))) (hw _ kI) (ty := .array (newarray.typeOf aty)) (pfA hk) rfl rfl (g := mkF m (pc + 2) L (.ref top :: .ref a :: S)) rfl rfl (hb hby d'.1)
  have hts : (newarray.typeOf aty = .int ∨ newarray.typeOf aty = .boolean ∨ newarray.typeOf aty = .long) := (All.mem kA (List.mem_of_getElem? hk)).2.1
  have hA := arr_new A1 hts hz
  have hR2 : Rep C.2.1 C.2.2.1 T2.heap (top + 1, (a, j + 1, ob) :: H) := by rw [e2]; exact hR.addA hw E1 s1 htop hk hA W2
  obtain ⟨T', locs', k', n', r, G', g1, g2, g3, g4, g5, g6, g7, g8⟩ := h hw p e s m args below meth c T2 _ L hx hby hml hr0 hnm hown hZ hf hsz X2 hR2 (Fr.snoc X2 hF hR.objs.1)
  exact ⟨T', locs', k', n', r, G', g1, g2, g3, g4, g5, g6, g7, fun fs hr => st1 _ (st2 _ (g8 fs hr))⟩
theorem Runs.initO {W : Nat} (d : DAt M pc (.invokespecial idx) 3 q) (w1 : Jvm.Cond.methodLink M.1.cls idx Lib.objectInit ∈ tables_1) (w2 : Jvm.Cond.instanceMethod Lib.objectInit ∈ tables_1) (w3 : Jvm.Cond.code Lib.objectInit ⟨#[0xb1]⟩ 1 none ∈ tables_1) (hW : (S.map fun v => v.category).sum = W) (hc : 1 ≤ M.2.2.2.2.frames ∧ W + 12 ≤ M.2.2.2.2.locals) (h : Runs C M k n q P S G Q) : Runs C M k n pc P (.ref a :: S) G Q := by
  intro hw p e s m args below meth c T locs L hx hby hml hr0 hnm hown hZ hf hsz X hR hF
  have hqq := d.2
  subst hqq
  obtain ⟨T1, X1, e1, st1⟩ := Jvm.RoadKit.initO X hx hZ hown (hw _ w1) (hw _ w2) (hw _ w3) rfl (g := mkF m pc L (.ref a :: S)) rfl (by rw [hml]; exact hsz) rfl (hb hby d.1) hc.1 (W := W) (by show 2 * 0 + _ ≤ _; omega) hc.2
  obtain ⟨T', locs', k', n', r, G', g1, g2, g3, g4, g5, g6, g7, g8⟩ := h hw p e s m args below meth c T1 _ L hx hby hml hr0 hnm hown hZ hf hsz X1 (by rw [e1]; exact hR) hF
  exact ⟨T', locs', k', n', r, G', g1, g2, g3, g4, g5, g6, g7, fun fs hr => st1 _ (g8 fs hr)⟩
end Heap
/- a body's contract, and the calls that are paid by one -/
def Pays (C : Ctx) (N : Bdy) (as : List Value) (G : AH) (Q : Option Value → AH → Prop) : Prop :=
  Ok C → ∀ h0 : Heap, Rep C.2.1 C.2.2.1 h0 G → ∀ ws : List Jvm.Cond, MetFree C.1 N.1 (head1 (Jvm.Cond.code N.1 N.2.1 N.2.2.1 N.2.2.2.1 :: ws) N.2.2.2.2) (fun a U => a = as.toArray ∧ C.2.1.Warmed39 U.vm ∧ U.heap = h0) (fun _ _ _ _ _ => True)
    (fun _ U o U' => ∃ v L, o = .returned v ∧ (Fr C.2.2.1 L ∧ ∃ G', Rep C.2.1 C.2.2.1 U'.heap G' ∧ Q v G') ∧ FrameEnd U o U' L N.2.2.2.2.cells N.2.2.2.2.slots)
def lay : List Value → List Slot
  | [] => []
  | v :: l => if v.category = 2 then .val v :: .second :: lay l else .val v :: lay l
theorem lay_foldl (l : List Value) : ∀ acc : Array Slot, (l.foldl (fun acc v => if v.category = 2 then (acc.push (.val v)).push .second else acc.push (.val v)) acc).toList = acc.toList ++ lay l := by
  induction l with
  | nil => intro acc; simp [lay]
  | cons v l ih =>
    intro acc
    rw [List.foldl_cons, ih]
    by_cases h : v.category = 2 <;> simp [lay, h]
theorem args_lay (as : List Value) (ml : Nat) : argsToLocals as.toArray ml = (lay as ++ List.replicate (ml - (lay as).length) Slot.unset).toArray := by
  have h := lay_foldl as #[]
  apply Array.ext'
  simp only [argsToLocals, Array.toList_append, List.toList_toArray] at *
  rw [show (as.toArray.foldl (init := #[]) fun acc v => if v.category = 2 then (acc.push (Slot.val v)).push .second else acc.push (.val v)).toList = lay as by simpa using h]
  congr 1
  rw [← Array.length_toList, show (as.toArray.foldl (init := #[]) fun acc v => if v.category = 2 then (acc.push (Slot.val v)).push .second else acc.push (.val v)).toList = lay as by simpa using h]
  simp
def WFL (l : List Slot) : Prop := (∀ i : Nat, l[i]? = some .second → ∃ (j : Nat) (v : Value), i = j + 1 ∧ l[j]? = some (.val v) ∧ v.category = 2) ∧ (∀ (i : Nat) (v : Value), l[i]? = some (.val v) → v.category = 2 → l[i + 1]? = some .second)
theorem WFL.unset (n : Nat) : WFL (List.replicate n Slot.unset) := by
  refine ⟨fun i h => ?_, fun i v h => ?_⟩ <;> (rw [List.getElem?_replicate] at h; split at h <;> cases h)
theorem WFL.one {l : List Slot} {v : Value} (h : WFL l) (hv : v.category ≠ 2) : WFL (.val v :: l) := by
  refine ⟨fun i hi => ?_, fun i w hi hw => ?_⟩
  · cases i with
    | zero => simp at hi
    | succ i =>
      obtain ⟨j, w, e1, e2, e3⟩ := h.1 i (by simpa using hi)
      exact ⟨j + 1, w, by omega, by simpa using e2, e3⟩
  · cases i with
    | zero => simp at hi; subst hi; exact absurd hw hv
    | succ i => have := h.2 i w (by simpa using hi) hw; simpa using this
theorem WFL.two {l : List Slot} {v : Value} (h : WFL l) (hv : v.category = 2) : WFL (.val v :: .second :: l) := by
  refine ⟨fun i hi => ?_, fun i w hi hw => ?_⟩
  · match i, hi with
    | 0, hi => simp at hi
    | 1, hi => exact ⟨0, v, rfl, by simp, hv⟩
    | i + 2, hi =>
      obtain ⟨j, w, e1, e2, e3⟩ := h.1 i (by simpa using hi)
      exact ⟨j + 2, w, by omega, by simpa using e2, e3⟩
  · match i, hi with
    | 0, hi => simp
    | 1, hi => simp at hi
    | i + 2, hi => have := h.2 i w (by simpa using hi) hw; simpa using this
theorem WFL.lay (as : List Value) (n : Nat) : WFL (lay as ++ List.replicate n Slot.unset) := by
  induction as with
  | nil => exact WFL.unset n
  | cons v l ih =>
    by_cases h : v.category = 2
    · simpa [Jvm.Pilot.@@N@@.lay, h] using ih.two h
    · simpa [Jvm.Pilot.@@N@@.lay, h] using ih.one h
def pforget : List Bool → Pat → Pat
  | [], _ => []
  | _, [] => []
  | true :: ms, x :: l => x :: pforget ms l
  | false :: ms, _ :: l => none :: pforget ms l
theorem pforget_get : ∀ (ms : List Bool) (P : Pat) (i : Nat) (s : Slot), pget (pforget ms P) i = some s → pget P i = some s
  | [], _, i, s, h => by simp [pforget, pget] at h
  | _ :: _, [], i, s, h => by simp [pforget, pget] at h
  | true :: ms, x :: l, 0, s, h => h
  | true :: ms, x :: l, i + 1, s, h => pforget_get ms l i s h
  | false :: ms, x :: l, 0, s, h => by simp [pforget, pget] at h
  | false :: ms, x :: l, i + 1, s, h => pforget_get ms l i s h
section Calls
variable {C : Ctx} {M N : Bdy} {k n pc q : Nat} {P P' : Pat} {S S' : List Value} {G G1 : AH} {Q : Option Value → AH → Prop} {top : Nat} {a : Nat} {qq j idx W : Nat} {ob : Rec} {H : List (Nat × Nat × Rec)} {as : List Value}
theorem Runs.forget (ms : List Bool) (hP : pforget ms P = P') (h : Runs C M k n pc P' S G Q) : Runs C M k n pc P S G Q := by
  intro hw p e s m args below meth c T locs L hx hby hml hret hnm hown hZ hf
  subst hP
  exact h hw p e s m args below meth c T locs L hx hby hml hret hnm hown hZ ⟨fun i s hi => hf.1 i s (pforget_get _ _ i s hi), hf.2⟩
theorem Pays.of (hpl : plainName N.1.cls = true) (hml : (lay as).length ≤ N.2.2.1) (x : Nat) (hP : (lay as).map some ++ List.replicate x none = P) (h : Runs C N 0 0 0 P [] G Q) : Pays C N as G Q := by
  intro hw h0 hR ws
  refine MetFree.of_bodySF (plainFor_of_name hpl) hisR ?_
  intro p e s m args below meth c s₁ Bd hml0 hp hK
  obtain ⟨rfl, hZ, hh⟩ := hp
  have X0 : Stand p C.1 e N.2.2.2.2 s m as.toArray below meth c s₁ [] 0 0 := Stand.of_body Bd
  have e0 : s₁.heap = h0 := by rw [← hh, Bd.state]; rfl
  obtain ⟨L, hL⟩ : ∃ L : Array Slot, L = (lay as ++ List.replicate (N.2.2.1 - (lay as).length) Slot.unset).toArray := ⟨_, rfl⟩
  have hfit : Fits P L := by
    subst hP hL
    refine ⟨fun i s hi => ?_, ?_⟩
    · rw [pget_eq] at hi
      cases hq : (lay as)[i]? with
      | none =>
        rw [List.getElem?_append_right (by simpa using hq), List.getElem?_replicate] at hi
        split at hi <;> simp at hi
      | some y =>
        have hlt := (List.getElem?_eq_some_iff.mp hq).1
        rw [List.getElem?_append_left (by simpa using hlt), List.getElem?_map, hq] at hi
        have this : y = s := by simpa using hi
        simp only [List.getElem?_toArray]
        rw [List.getElem?_append_left hlt, hq, this]
    · have := WFL.lay as (N.2.2.1 - (lay as).length)
      refine ⟨fun i hi => ?_, fun i v hi hv => ?_⟩
      · rw [List.getElem?_toArray] at hi
        obtain ⟨j, v, e1, e2, e3⟩ := this.1 i hi
        exact ⟨j, v, e1, by rw [List.getElem?_toArray]; exact e2, e3⟩
      · rw [List.getElem?_toArray] at hi ⊢
        exact this.2 i v hi hv
  obtain ⟨T', locs', k', n', r, G', g1, g2, g3, g4, g5, g6, g7, g8⟩ := h hw p e s m as.toArray below meth c s₁ [] L Bd.exec Bd.bytes hml0 Bd.returns (name_of_methodNamed Bd.named Bd.method).1 (findClass_of_methodNamed Bd.named) hZ hfit (by rw [hL]; simp; omega) X0 (by rw [e0]; exact hR) (Fr.nil _)
  obtain ⟨fs, hr, hrun, hended, hW, hsame⟩ := g1.leave (v := r) (fun u => g7 (by rw [← Bd.returns]; exact u))
  refine ⟨_, _, ?_, hrun, hended, _, _, rfl, ⟨g5, G', ?_, g6⟩, ⟨_, rfl⟩, hW, hsame.mono g2 g3⟩
  · have ef : entryFrame m as.toArray N.2.2.1 = mkF m 0 L [] := by
      rw [hL, ← args_lay]; rfl
    rw [ef]; exact g8 fs hr
  · exact g4
abbrev room_al (M N : Bdy) (W k n : Nat) : Prop := N.2.2.2.2.frames + 1 ≤ M.2.2.2.2.frames ∧ W + (N.2.2.1 + 11) + N.2.2.2.2.locals ≤ M.2.2.2.2.locals ∧ k + N.2.2.2.2.cells ≤ M.2.2.2.2.cells ∧ n + N.2.2.2.2.slots ≤ M.2.2.2.2.slots
abbrev room_ok (M N : Bdy) (W : Nat) : Prop := N.2.2.2.2.frames + 1 ≤ M.2.2.2.2.frames ∧ W + (N.2.2.1 + 11) + N.2.2.2.2.locals ≤ M.2.2.2.2.locals ∧ N.2.2.2.2.cells = 0 ∧ N.2.2.2.2.slots = 0
abbrev full_ok (M : Bdy) (k n : Nat) : Prop := k ≤ M.2.2.2.2.cells ∧ n ≤ M.2.2.2.2.slots
theorem room_ok.al (h : room_ok M N W) (f : full_ok M k n) : room_al M N W k n := ⟨h.1, h.2.1, by rw [h.2.2.1]; exact f.1, by rw [h.2.2.2]; exact f.2⟩
abbrev code_w (N : Bdy) : Prop := Jvm.Cond.code N.1 N.2.1 N.2.2.1 N.2.2.2.1 ∈ tables_1 ∧ Jvm.Cond.initialized N.1.cls ∈ tables_1 ∧ (N.1.cls ≠ "java/lang/invoke/MethodHandle" ∧ N.1.cls ≠ "java/lang/invoke/VarHandle")
def arity (N : Bdy) (na : Nat) : Prop := ∃ ps r, parseMethodDescriptor N.1.desc = some ⟨ps, r⟩ ∧ na = ps.length
theorem arity.len {na : Nat} (h : arity N na) (e : as.length = na) : ∀ sig, parseMethodDescriptor N.1.desc = some sig → as.length = sig.parameters.length := by
  obtain ⟨ps, r, h1, h2⟩ := h
  exact lenOf h1 (e.trans h2)
theorem after_call {v : Option Value} {p : Program} {e : Env} {s : State} {m : MethodId} {args : Array Value} {below : List Frame} {meth : Method} {c : Code} {T T0 : State} {locs : List Loc} {L : Array Slot} {QN : Option Value → AH → Prop} {Lc : List Loc}
    (hw : Ok C) (hx : p.tables.exec = Jvm.exec) (hby : c.code = M.2.1) (hml : c.maxLocals = M.2.2.1) (hret : meth.sig.returnType = M.2.2.2.1) (hnm : meth.name = M.1.name) (hown : s.vm.findClass M.1.cls = some m.cls) (hZ : C.2.1.Warmed39 s.vm) (hf : Fits P L) (hsz : L.size = M.2.2.1) (hF : Fr C.2.2.1 locs)
    (X : Stand p C.1 e M.2.2.2.2 s m args below meth c T (locs ++ Lc) (k + N.2.2.2.2.cells) (n + N.2.2.2.2.slots)) (hQ : Fr C.2.2.1 Lc ∧ ∃ G', Rep C.2.1 C.2.2.1 T.heap G' ∧ QN v G')
    (h : ∀ v G', QN v G' → Runs C M (k + N.2.2.2.2.cells) (n + N.2.2.2.2.slots) (pc + 3) P (v.toList ++ S') G' Q)
    (st : ∀ t, Steps p.tables e below (T.setTop (mkF m (pc + 3) L (v.toList ++ S'))) t → Steps p.tables e below (T0.setTop (mkF m pc L S)) t) :
    ∃ (T' : State) (locs' : List Loc) (k' n' : Nat) (r : Option Value) (G' : AH), Stand p C.1 e M.2.2.2.2 s m args below meth c T' locs' k' n' ∧ k' ≤ M.2.2.2.2.cells ∧ n' ≤ M.2.2.2.2.slots ∧ Rep C.2.1 C.2.2.1 T'.heap G' ∧ Fr C.2.2.1 locs' ∧ Q r G' ∧
      (M.2.2.2.1 = none → r = none) ∧
      ∀ fs : List Frame, (∀ (f : JFrame) (acts : List Action), f.method = m → f.locked = none → f.entered = [] → (doReturn e (T'.setTop f) acts r).1 = T'.setFrames fs) → Steps p.tables e below (T0.setTop (mkF m pc L S)) (T'.setFrames fs) := by
  obtain ⟨f1, G', f2, f3⟩ := hQ
  obtain ⟨T', locs', k', n', r, G'', g1, g2, g3, g4, g5, g6, g7, g8⟩ := h v G' f3 hw p e s m args below meth c T _ L hx hby hml hret hnm hown hZ hf hsz X f2 (Fr.app hF f1)
  exact ⟨T', locs', k', n', r, G'', g1, g2, g3, g4, g5, g6, g7, fun fs hr => st _ (g8 fs hr)⟩
theorem Runs.callS {QN : Option Value → AH → Prop} (d : DAt M pc (.invokestatic idx) 3 q) (wl : Jvm.Cond.methodLink M.1.cls idx N.1 ∈ tables_1) (wt : Jvm.Cond.static N.1 ∈ tables_1) (wc : code_w N) (ar : arity N as.length) (hr0 : room_ok M N W) (hfull : full_ok M k n) (hS : S = as.reverse ++ S') (hW : (S'.map fun v => v.category).sum = W)
    (hN : Pays C N as G QN) (h : ∀ v G', QN v G' → Runs C M k n q P (v.toList ++ S') G' Q) : Runs C M k n pc P S G Q := by
  intro hw p e s m args below meth c T locs L hx hby hml hret hnm hown hZ hf hsz X hR hF
  have hq := d.2
  subst hq hS
  have hr := hr0.al hfull
  obtain ⟨_, _, ⟨T1, L1, k1, n1⟩, -, X1, ⟨Lc, hQ, l1, y1, z1⟩, st⟩ := Jvm.LawKit.callS X hx (y := N.1) hown (mvT hZ (hw _ wl)) (mvT hZ (hw _ wt)) (mvT hZ (hw _ wc.2.1)) (mvT hZ (hw _ wc.1)) wc.2.2 (backOf (W := W) (Q := fun v h L => Fr C.2.2.1 L ∧ ∃ G', Rep C.2.1 C.2.2.1 h G' ∧ QN v G') (hN hw T.heap hR []) hZ (hw _ wc.1) (hw _ wc.2.1) hr.1 hr.2.1) (g := mkF m pc L (as.reverse ++ S')) rfl (by rw [hml]; exact hsz) (argsL := as) (rest := S') (ar.len rfl) rfl (by show 2 * 0 + _ ≤ _; omega) (hb hby d.1) (fun _ _ => ⟨rfl, rfl, hr.2.2.1, hr.2.2.2⟩)
  dsimp only [Pt.U, Pt.locs, Pt.cells, Pt.slots] at X1 l1 y1 z1 st hQ
  subst l1 y1 z1
  exact after_call hw hx hby hml hret hnm hown hZ hf hsz hF X1 hQ (by rw [hr0.2.2.1, hr0.2.2.2]; exact h) (fun t u => st t u)
theorem Runs.callV {QN : Option Value → AH → Prop} (d : DAt M pc (.invokevirtual idx) 3 q) (wl : Jvm.Cond.methodLink M.1.cls idx N.1 ∈ tables_1) (wd : Jvm.Cond.declares N.1 ∈ tables_1) (wi : Jvm.Cond.instanceMethod N.1 ∈ tables_1) (ws : Jvm.Cond.selects K.1 N.1 N.1 ∈ tables_1) (wc : code_w N) (ar : arity N as.length) (hr0 : room_ok M N W) (hfull : full_ok M k n) (hS : S = as.reverse ++ .ref a :: S') (hW : (S'.map fun v => v.category).sum = W)
    (hN : Pays C N (.ref a :: as) (top, (a, qq, ob) :: H) QN) (h : ∀ v G', QN v G' → Runs C M k n q P (v.toList ++ S') G' Q) : Runs C M k n pc P S (top, (a, qq, ob) :: H) Q := by
  intro hw p e s m args below meth c T locs L hx hby hml hret hnm hown hZ hf hsz X hR hF
  have hq := d.2
  subst hq hS
  have hr := hr0.al hfull
  obtain ⟨cB, kB, u1, -, u3⟩ := isOf hZ rfl hR.objs.2.2.1
  obtain ⟨_, _, ⟨T1, L1, k1, n1⟩, -, X1, ⟨Lc, hQ, l1, y1, z1⟩, st⟩ := X.virtualBack hx (y := N.1) (z := N.1) hown (mvT hZ (hw _ wl)) (mvT hZ (hw _ wd)) (notFace_of_selects (args := #[]) (mvT hZ (hw _ ws))) (mvT hZ (hw _ ws)) (mvT hZ (hw _ wi)) wc.2.2 (backOf (W := W) (Q := fun v h L => Fr C.2.2.1 L ∧ ∃ G', Rep C.2.1 C.2.2.1 h G' ∧ QN v G') (hN hw T.heap hR []) hZ (hw _ wc.1) (hw _ wc.2.1) hr.1 hr.2.1) u1 u3 (g := mkF m pc L (as.reverse ++ .ref a :: S')) rfl (by rw [hml]; exact hsz) (Steps.refl _) (argsL := as) (rest := S') (ar.len rfl) rfl (by show 2 * 0 + _ ≤ _; omega) (hb hby d.1) (fun _ _ => ⟨rfl, rfl, hr.2.2.1, hr.2.2.2⟩)
  dsimp only [Pt.U, Pt.locs, Pt.cells, Pt.slots] at X1 l1 y1 z1 st hQ
  subst l1 y1 z1
  exact after_call hw hx hby hml hret hnm hown hZ hf hsz hF X1 hQ (by rw [hr0.2.2.1, hr0.2.2.2]; exact h) (fun t u => st.trans u)
theorem Runs.callP {QN : Option Value → AH → Prop} (d : DAt M pc (.invokevirtual idx) 3 q) (wl : Jvm.Cond.methodLink M.1.cls idx N.1 ∈ tables_1) (wi : Jvm.Cond.instanceMethod N.1 ∈ tables_1) (wp : Jvm.Cond.privateMethod N.1 ∈ tables_1) (wK : N.1.cls = K.1) (wc : code_w N) (ar : arity N as.length) (hr0 : room_ok M N W) (hfull : full_ok M k n) (hS : S = as.reverse ++ .ref a :: S') (hW : (S'.map fun v => v.category).sum = W)
    (hN : Pays C N (.ref a :: as) (top, (a, qq, ob) :: H) QN) (h : ∀ v G', QN v G' → Runs C M k n q P (v.toList ++ S') G' Q) : Runs C M k n pc P S (top, (a, qq, ob) :: H) Q := by
  intro hw p e s m args below meth c T locs L hx hby hml hret hnm hown hZ hf hsz X hR hF
  have hq := d.2
  subst hq hS
  have hr := hr0.al hfull
  obtain ⟨cl, u1, u2⟩ := hR.objs.2.2.1.cell
  have hpr : s.PrivateAt N.1 := Cond.privateMethod_at (mvP hZ (hw _ wp) (args := #[]))
  obtain ⟨c2, k2, i1, i2, i3, i4, -⟩ := Cond.instantiable_spec (mvT (args := args) hZ (hw _ kI))
  have hsel : (Jvm.Cond.selects N.1.cls N.1 N.1).before args s = true := Stand.selects_self_of_private (by rw [wK]; exact i1) i2 (by simp at i4; exact i4.1) hpr (mvT hZ (hw _ wi)) wc.2.2
  obtain ⟨_, _, ⟨T1, L1, k1, n1⟩, -, X1, ⟨Lc, hQ, l1, y1, z1⟩, st⟩ := X.privateBack hx (y := N.1) hown (mvT hZ (hw _ wl)) (mvT hZ (hw _ wi)) hsel hpr (mvT hZ (hw _ wc.1)) wc.2.2 (backOf (W := W) (Q := fun v h L => Fr C.2.2.1 L ∧ ∃ G', Rep C.2.1 C.2.2.1 h G' ∧ QN v G') (hN hw T.heap hR []) hZ (hw _ wc.1) (hw _ wc.2.1) hr.1 hr.2.1) (g := mkF m pc L (as.reverse ++ .ref a :: S')) rfl (by rw [hml]; exact hsz) (Steps.refl _) (a := a) u1 u2 (argsL := as) (rest := S') (ar.len rfl) rfl (by show 2 * 0 + _ ≤ _; omega) (hb hby d.1) (fun _ _ => ⟨rfl, rfl, hr.2.2.1, hr.2.2.2⟩)
  dsimp only [Pt.U, Pt.locs, Pt.cells, Pt.slots] at X1 l1 y1 z1 st hQ
  subst l1 y1 z1
  exact after_call hw hx hby hml hret hnm hown hZ hf hsz hF X1 hQ (by rw [hr0.2.2.1, hr0.2.2.2]; exact h) (fun t u => st.trans u)
theorem Runs.callI {QN : Option Value → AH → Prop} (d : DAt M pc (.invokespecial idx) 3 q) (hi : N.1.name = "<init>") (hn : N.2.2.2.1 = none) (wl : Jvm.Cond.methodLink M.1.cls idx N.1 ∈ tables_1) (wi : Jvm.Cond.instanceMethod N.1 ∈ tables_1) (wc : code_w N) (ar : arity N as.length) (hr : room_al M N W k n) (hS : S = as.reverse ++ .ref a :: S') (hW : (S'.map fun v => v.category).sum = W) {k' n' : Nat} (hk' : k + N.2.2.2.2.cells = k') (hn' : n + N.2.2.2.2.slots = n')
    (hN : Pays C N (.ref a :: as) G QN) (h : ∀ v G', QN v G' → Runs C M k' n' q P (v.toList ++ S') G' Q) : Runs C M k n pc P S G Q := by
  intro hw p e s m args below meth c T locs L hx hby hml hret hnm hown hZ hf hsz X hR hF
  have hq := d.2
  subst hq hS hk' hn'
  have wc1 := hw _ wc.1
  obtain ⟨_, _, ⟨T1, L1, k1, n1⟩, -, X1, ⟨Lc, hQ, l1, y1, z1⟩, st⟩ := X.specialBack hx (y := N.1) hi hown (mvT hZ (hw _ wl)) (mvT hZ (hw _ wi)) (bytes := N.2.1) (maxL := N.2.2.1) (by have := mvT (args := args) hZ wc1; rw [hn] at this; exact this) wc.2.2 (backOf (W := W) (Q := fun v h L => Fr C.2.2.1 L ∧ ∃ G', Rep C.2.1 C.2.2.1 h G' ∧ QN v G') (hN hw T.heap hR []) hZ wc1 (hw _ wc.2.1) hr.1 hr.2.1) (g := mkF m pc L (as.reverse ++ .ref a :: S')) rfl (by rw [hml]; exact hsz) (Steps.refl _) (a := a) (argsL := as) (rest := S') (ar.len rfl) rfl (by show 2 * 0 + _ ≤ _; omega) (hb hby d.1) (fun _ _ => ⟨rfl, rfl, hr.2.2.1, hr.2.2.2⟩)
  dsimp only [Pt.U, Pt.locs, Pt.cells, Pt.slots] at X1 l1 y1 z1 st hQ
  subst l1 y1 z1
  exact after_call hw hx hby hml hret hnm hown hZ hf hsz hF X1 hQ h (fun t u => st.trans u)
/-- the plain form of a contract: one answer, one heap -/
abbrev Ans (r : Option Value) (G1 : AH) : Option Value → AH → Prop := fun v G' => v = r ∧ G' = G1
theorem ans1 {x : Value} {k n : Nat} (h : Runs C M k n pc P (x :: S) G1 Q) : ∀ v G', Ans (some x) G1 v G' → Runs C M k n pc P (v.toList ++ S) G' Q := by
  rintro v G' ⟨rfl, rfl⟩; exact h
theorem ans0 {k n : Nat} (h : Runs C M k n pc P S G1 Q) : ∀ v G', Ans none G1 v G' → Runs C M k n pc P (v.toList ++ S) G' Q := by
  rintro v G' ⟨rfl, rfl⟩; exact h
end Calls
theorem pnK : plainName "XorGaussSat" = true := by first | (simp [plainName, overriddenIn]; done) | decide +kernel
theorem pnL : plainName "XorGaussSatL3" = true := by first | (simp [plainName, overriddenIn]; done) | decide +kernel
theorem w0 : (Jvm.Cond.classLink "XorGaussSatL3" (7 : Nat) "XorGaussSat") ∈ tables_1 := mem1 0 rfl
theorem w3 : (Jvm.Cond.methodLink "XorGaussSatL3" (9 : Nat) ({ cls := "XorGaussSat", name := "<init>", desc := "(I)V" } : Jvm.MethodName)) ∈ tables_1 := mem1 3 rfl
theorem w4 : (Jvm.Cond.instanceMethod ({ cls := "XorGaussSat", name := "<init>", desc := "(I)V" } : Jvm.MethodName)) ∈ tables_1 := mem1 4 rfl
theorem w6 : (Jvm.Cond.methodLink "XorGaussSat" (1 : Nat) ({ cls := "java/lang/Object", name := "<init>", desc := "()V" } : Jvm.MethodName)) ∈ tables_1 := mem1 6 rfl
theorem w7 : (Jvm.Cond.instanceMethod ({ cls := "java/lang/Object", name := "<init>", desc := "()V" } : Jvm.MethodName)) ∈ tables_1 := mem1 7 rfl
theorem w8 : (Jvm.Cond.code ({ cls := "java/lang/Object", name := "<init>", desc := "()V" } : Jvm.MethodName) object_method_1_code (1 : Nat) (Option.none : Option Jvm.ClassFile.FieldType)) ∈ tables_1 := mem1 8 rfl
theorem w9 : (Jvm.Cond.arrayClass Jvm.ClassFile.FieldType.int) ∈ tables_1 := mem1 9 rfl
theorem w10 : (Jvm.Cond.fieldLink "XorGaussSat" (7 : Nat) "XorGaussSat" "pendVar" "[I") ∈ tables_1 := mem1 10 rfl
theorem w12 : (Jvm.Cond.arrayClass Jvm.ClassFile.FieldType.boolean) ∈ tables_1 := mem1 12 rfl
theorem w13 : (Jvm.Cond.fieldLink "XorGaussSat" (13 : Nat) "XorGaussSat" "pendNeg" "[Z") ∈ tables_1 := mem1 13 rfl
theorem w15 : (Jvm.Cond.fieldLink "XorGaussSat" (17 : Nat) "XorGaussSat" "clausePos" "[I") ∈ tables_1 := mem1 15 rfl
theorem w17 : (Jvm.Cond.fieldLink "XorGaussSat" (20 : Nat) "XorGaussSat" "clauseNeg" "[I") ∈ tables_1 := mem1 17 rfl
theorem w19 : (Jvm.Cond.fieldLink "XorGaussSat" (23 : Nat) "XorGaussSat" "xorMask" "[I") ∈ tables_1 := mem1 19 rfl
theorem w21 : (Jvm.Cond.fieldLink "XorGaussSat" (26 : Nat) "XorGaussSat" "xorRhs" "[I") ∈ tables_1 := mem1 21 rfl
theorem w23 : (Jvm.Cond.fieldLink "XorGaussSat" (29 : Nat) "XorGaussSat" "order" "[I") ∈ tables_1 := mem1 23 rfl
theorem w25 : (Jvm.Cond.fieldLink "XorGaussSat" (32 : Nat) "XorGaussSat" "echMask" "[I") ∈ tables_1 := mem1 25 rfl
theorem w27 : (Jvm.Cond.fieldLink "XorGaussSat" (35 : Nat) "XorGaussSat" "echRhs" "[I") ∈ tables_1 := mem1 27 rfl
theorem w29 : (Jvm.Cond.fieldLink "XorGaussSat" (38 : Nat) "XorGaussSat" "echPivot" "[I") ∈ tables_1 := mem1 29 rfl
theorem w31 : (Jvm.Cond.fieldLink "XorGaussSat" (41 : Nat) "XorGaussSat" "gMask" "[I") ∈ tables_1 := mem1 31 rfl
theorem w33 : (Jvm.Cond.fieldLink "XorGaussSat" (44 : Nat) "XorGaussSat" "gRhs" "[I") ∈ tables_1 := mem1 33 rfl
theorem w35 : (Jvm.Cond.fieldLink "XorGaussSat" (47 : Nat) "XorGaussSat" "gPivot" "[I") ∈ tables_1 := mem1 35 rfl
theorem w37 : (Jvm.Cond.fieldLink "XorGaussSat" (50 : Nat) "XorGaussSat" "trail" "[I") ∈ tables_1 := mem1 37 rfl
theorem w39 : (Jvm.Cond.fieldLink "XorGaussSat" (53 : Nat) "XorGaussSat" "lvlVar" "[I") ∈ tables_1 := mem1 39 rfl
theorem w41 : (Jvm.Cond.fieldLink "XorGaussSat" (56 : Nat) "XorGaussSat" "lvlStart" "[I") ∈ tables_1 := mem1 41 rfl
theorem w43 : (Jvm.Cond.fieldLink "XorGaussSat" (59 : Nat) "XorGaussSat" "lvlFlipped" "[Z") ∈ tables_1 := mem1 43 rfl
theorem w45 : (Jvm.Cond.fieldLink "XorGaussSat" (62 : Nat) "XorGaussSat" "n" "I") ∈ tables_1 := mem1 45 rfl
theorem w46 : (Jvm.Cond.lays "XorGaussSat" "XorGaussSat" "n" "I") ∈ tables_1 := mem1 46 rfl
theorem w47 : (Jvm.Cond.fieldLink "XorGaussSat" (66 : Nat) "XorGaussSat" "fullMask" "I") ∈ tables_1 := mem1 47 rfl
theorem w48 : (Jvm.Cond.lays "XorGaussSat" "XorGaussSat" "fullMask" "I") ∈ tables_1 := mem1 48 rfl
theorem w49 : (Jvm.Cond.fieldLink "XorGaussSat" (69 : Nat) "XorGaussSat" "status" "I") ∈ tables_1 := mem1 49 rfl
theorem w50 : (Jvm.Cond.lays "XorGaussSat" "XorGaussSat" "status" "I") ∈ tables_1 := mem1 50 rfl
theorem w51 : (Jvm.Cond.fieldLink "XorGaussSat" (72 : Nat) "XorGaussSat" "model" "I") ∈ tables_1 := mem1 51 rfl
theorem w52 : (Jvm.Cond.lays "XorGaussSat" "XorGaussSat" "model" "I") ∈ tables_1 := mem1 52 rfl
theorem w53 : (Jvm.Cond.fieldLink "XorGaussSat" (75 : Nat) "XorGaussSat" "pendLen" "I") ∈ tables_1 := mem1 53 rfl
theorem w54 : (Jvm.Cond.lays "XorGaussSat" "XorGaussSat" "pendLen" "I") ∈ tables_1 := mem1 54 rfl
theorem w55 : (Jvm.Cond.fieldLink "XorGaussSat" (78 : Nat) "XorGaussSat" "clauseCnt" "I") ∈ tables_1 := mem1 55 rfl
theorem w56 : (Jvm.Cond.lays "XorGaussSat" "XorGaussSat" "clauseCnt" "I") ∈ tables_1 := mem1 56 rfl
theorem w57 : (Jvm.Cond.fieldLink "XorGaussSat" (81 : Nat) "XorGaussSat" "xorCnt" "I") ∈ tables_1 := mem1 57 rfl
theorem w58 : (Jvm.Cond.lays "XorGaussSat" "XorGaussSat" "xorCnt" "I") ∈ tables_1 := mem1 58 rfl
theorem w59 : (Jvm.Cond.fieldLink "XorGaussSat" (84 : Nat) "XorGaussSat" "orderLen" "I") ∈ tables_1 := mem1 59 rfl
theorem w60 : (Jvm.Cond.lays "XorGaussSat" "XorGaussSat" "orderLen" "I") ∈ tables_1 := mem1 60 rfl
theorem w61 : (Jvm.Cond.fieldLink "XorGaussSat" (87 : Nat) "XorGaussSat" "echValid" "Z") ∈ tables_1 := mem1 61 rfl
theorem w62 : (Jvm.Cond.lays "XorGaussSat" "XorGaussSat" "echValid" "Z") ∈ tables_1 := mem1 62 rfl
theorem w63 : (Jvm.Cond.fieldLink "XorGaussSat" (91 : Nat) "XorGaussSat" "echConsistent" "Z") ∈ tables_1 := mem1 63 rfl
theorem w64 : (Jvm.Cond.lays "XorGaussSat" "XorGaussSat" "echConsistent" "Z") ∈ tables_1 := mem1 64 rfl
theorem w65 : (Jvm.Cond.fieldLink "XorGaussSat" (94 : Nat) "XorGaussSat" "echRank" "I") ∈ tables_1 := mem1 65 rfl
theorem w66 : (Jvm.Cond.lays "XorGaussSat" "XorGaussSat" "echRank" "I") ∈ tables_1 := mem1 66 rfl
theorem w67 : (Jvm.Cond.methodLink "XorGaussSatL3" (12 : Nat) ({ cls := "XorGaussSat", name := "addLiteral", desc := "(IZ)I" } : Jvm.MethodName)) ∈ tables_1 := mem1 67 rfl
theorem w68 : (Jvm.Cond.declares ({ cls := "XorGaussSat", name := "addLiteral", desc := "(IZ)I" } : Jvm.MethodName)) ∈ tables_1 := mem1 68 rfl
theorem w69 : (Jvm.Cond.instanceMethod ({ cls := "XorGaussSat", name := "addLiteral", desc := "(IZ)I" } : Jvm.MethodName)) ∈ tables_1 := mem1 69 rfl
theorem w70 : (Jvm.Cond.selects "XorGaussSat" ({ cls := "XorGaussSat", name := "addLiteral", desc := "(IZ)I" } : Jvm.MethodName) ({ cls := "XorGaussSat", name := "addLiteral", desc := "(IZ)I" } : Jvm.MethodName)) ∈ tables_1 := mem1 70 rfl
theorem w72 : (Jvm.Cond.methodLink "XorGaussSatL3" (16 : Nat) ({ cls := "XorGaussSat", name := "commitXor", desc := "(Z)I" } : Jvm.MethodName)) ∈ tables_1 := mem1 72 rfl
theorem w73 : (Jvm.Cond.declares ({ cls := "XorGaussSat", name := "commitXor", desc := "(Z)I" } : Jvm.MethodName)) ∈ tables_1 := mem1 73 rfl
theorem w74 : (Jvm.Cond.instanceMethod ({ cls := "XorGaussSat", name := "commitXor", desc := "(Z)I" } : Jvm.MethodName)) ∈ tables_1 := mem1 74 rfl
theorem w75 : (Jvm.Cond.selects "XorGaussSat" ({ cls := "XorGaussSat", name := "commitXor", desc := "(Z)I" } : Jvm.MethodName) ({ cls := "XorGaussSat", name := "commitXor", desc := "(Z)I" } : Jvm.MethodName)) ∈ tables_1 := mem1 75 rfl
theorem w77 : (Jvm.Cond.methodLink "XorGaussSat" (105 : Nat) ({ cls := "XorGaussSat", name := "pendingNegatedParity", desc := "()I" } : Jvm.MethodName)) ∈ tables_1 := mem1 77 rfl
theorem w78 : (Jvm.Cond.instanceMethod ({ cls := "XorGaussSat", name := "pendingNegatedParity", desc := "()I" } : Jvm.MethodName)) ∈ tables_1 := mem1 78 rfl
theorem w79 : (Jvm.Cond.privateMethod ({ cls := "XorGaussSat", name := "pendingNegatedParity", desc := "()I" } : Jvm.MethodName)) ∈ tables_1 := mem1 79 rfl
theorem w81 : (Jvm.Cond.methodLink "XorGaussSat" (109 : Nat) ({ cls := "XorGaussSat", name := "pendingXorMask", desc := "()I" } : Jvm.MethodName)) ∈ tables_1 := mem1 81 rfl
theorem w82 : (Jvm.Cond.instanceMethod ({ cls := "XorGaussSat", name := "pendingXorMask", desc := "()I" } : Jvm.MethodName)) ∈ tables_1 := mem1 82 rfl
theorem w83 : (Jvm.Cond.privateMethod ({ cls := "XorGaussSat", name := "pendingXorMask", desc := "()I" } : Jvm.MethodName)) ∈ tables_1 := mem1 83 rfl
theorem w85 : (Jvm.Cond.methodLink "XorGaussSat" (101 : Nat) ({ cls := "XorGaussSat", name := "pushOrder", desc := "(I)V" } : Jvm.MethodName)) ∈ tables_1 := mem1 85 rfl
theorem w86 : (Jvm.Cond.instanceMethod ({ cls := "XorGaussSat", name := "pushOrder", desc := "(I)V" } : Jvm.MethodName)) ∈ tables_1 := mem1 86 rfl
theorem w87 : (Jvm.Cond.privateMethod ({ cls := "XorGaussSat", name := "pushOrder", desc := "(I)V" } : Jvm.MethodName)) ∈ tables_1 := mem1 87 rfl
theorem w89 : (Jvm.Cond.methodLink "XorGaussSatL3" (20 : Nat) ({ cls := "XorGaussSat", name := "commitClause", desc := "()I" } : Jvm.MethodName)) ∈ tables_1 := mem1 89 rfl
theorem w90 : (Jvm.Cond.declares ({ cls := "XorGaussSat", name := "commitClause", desc := "()I" } : Jvm.MethodName)) ∈ tables_1 := mem1 90 rfl
theorem w91 : (Jvm.Cond.instanceMethod ({ cls := "XorGaussSat", name := "commitClause", desc := "()I" } : Jvm.MethodName)) ∈ tables_1 := mem1 91 rfl
theorem w92 : (Jvm.Cond.selects "XorGaussSat" ({ cls := "XorGaussSat", name := "commitClause", desc := "()I" } : Jvm.MethodName) ({ cls := "XorGaussSat", name := "commitClause", desc := "()I" } : Jvm.MethodName)) ∈ tables_1 := mem1 92 rfl
theorem w94 : (Jvm.Cond.methodLink "XorGaussSat" (97 : Nat) ({ cls := "XorGaussSat", name := "pendingMask", desc := "(Z)I" } : Jvm.MethodName)) ∈ tables_1 := mem1 94 rfl
theorem w95 : (Jvm.Cond.instanceMethod ({ cls := "XorGaussSat", name := "pendingMask", desc := "(Z)I" } : Jvm.MethodName)) ∈ tables_1 := mem1 95 rfl
theorem w96 : (Jvm.Cond.privateMethod ({ cls := "XorGaussSat", name := "pendingMask", desc := "(Z)I" } : Jvm.MethodName)) ∈ tables_1 := mem1 96 rfl
theorem w98 : (Jvm.Cond.methodLink "XorGaussSatL3" (24 : Nat) ({ cls := "XorGaussSat", name := "solve", desc := "()I" } : Jvm.MethodName)) ∈ tables_1 := mem1 98 rfl
theorem w99 : (Jvm.Cond.declares ({ cls := "XorGaussSat", name := "solve", desc := "()I" } : Jvm.MethodName)) ∈ tables_1 := mem1 99 rfl
theorem w100 : (Jvm.Cond.instanceMethod ({ cls := "XorGaussSat", name := "solve", desc := "()I" } : Jvm.MethodName)) ∈ tables_1 := mem1 100 rfl
theorem w101 : (Jvm.Cond.selects "XorGaussSat" ({ cls := "XorGaussSat", name := "solve", desc := "()I" } : Jvm.MethodName) ({ cls := "XorGaussSat", name := "solve", desc := "()I" } : Jvm.MethodName)) ∈ tables_1 := mem1 101 rfl
theorem w103 : (Jvm.Cond.methodLink "XorGaussSat" (112 : Nat) ({ cls := "XorGaussSat", name := "search", desc := "(II)Z" } : Jvm.MethodName)) ∈ tables_1 := mem1 103 rfl
theorem w104 : (Jvm.Cond.instanceMethod ({ cls := "XorGaussSat", name := "search", desc := "(II)Z" } : Jvm.MethodName)) ∈ tables_1 := mem1 104 rfl
theorem w105 : (Jvm.Cond.privateMethod ({ cls := "XorGaussSat", name := "search", desc := "(II)Z" } : Jvm.MethodName)) ∈ tables_1 := mem1 105 rfl
theorem w107 : (Jvm.Cond.methodLink "XorGaussSat" (125 : Nat) ({ cls := "XorGaussSat", name := "ensureEchelon", desc := "()V" } : Jvm.MethodName)) ∈ tables_1 := mem1 107 rfl
theorem w108 : (Jvm.Cond.instanceMethod ({ cls := "XorGaussSat", name := "ensureEchelon", desc := "()V" } : Jvm.MethodName)) ∈ tables_1 := mem1 108 rfl
theorem w109 : (Jvm.Cond.privateMethod ({ cls := "XorGaussSat", name := "ensureEchelon", desc := "()V" } : Jvm.MethodName)) ∈ tables_1 := mem1 109 rfl
theorem w111 : (Jvm.Cond.fieldLink "XorGaussSat" (154 : Nat) "XorGaussSat" "gRows" "I") ∈ tables_1 := mem1 111 rfl
theorem w112 : (Jvm.Cond.lays "XorGaussSat" "XorGaussSat" "gRows" "I") ∈ tables_1 := mem1 112 rfl
theorem w113 : (Jvm.Cond.methodLink "XorGaussSat" (157 : Nat) ({ cls := "XorGaussSat", name := "eliminate", desc := "()V" } : Jvm.MethodName)) ∈ tables_1 := mem1 113 rfl
theorem w114 : (Jvm.Cond.instanceMethod ({ cls := "XorGaussSat", name := "eliminate", desc := "()V" } : Jvm.MethodName)) ∈ tables_1 := mem1 114 rfl
theorem w115 : (Jvm.Cond.privateMethod ({ cls := "XorGaussSat", name := "eliminate", desc := "()V" } : Jvm.MethodName)) ∈ tables_1 := mem1 115 rfl
theorem w117 : (Jvm.Cond.fieldLink "XorGaussSat" (141 : Nat) "XorGaussSat" "gRank" "I") ∈ tables_1 := mem1 117 rfl
theorem w118 : (Jvm.Cond.lays "XorGaussSat" "XorGaussSat" "gRank" "I") ∈ tables_1 := mem1 118 rfl
theorem w119 : (Jvm.Cond.methodLink "XorGaussSat" (144 : Nat) ({ cls := "XorGaussSat", name := "findPivot", desc := "(I)I" } : Jvm.MethodName)) ∈ tables_1 := mem1 119 rfl
theorem w120 : (Jvm.Cond.instanceMethod ({ cls := "XorGaussSat", name := "findPivot", desc := "(I)I" } : Jvm.MethodName)) ∈ tables_1 := mem1 120 rfl
theorem w121 : (Jvm.Cond.privateMethod ({ cls := "XorGaussSat", name := "findPivot", desc := "(I)I" } : Jvm.MethodName)) ∈ tables_1 := mem1 121 rfl
theorem w123 : (Jvm.Cond.methodLink "XorGaussSat" (147 : Nat) ({ cls := "XorGaussSat", name := "swapRows", desc := "(II)V" } : Jvm.MethodName)) ∈ tables_1 := mem1 123 rfl
theorem w124 : (Jvm.Cond.instanceMethod ({ cls := "XorGaussSat", name := "swapRows", desc := "(II)V" } : Jvm.MethodName)) ∈ tables_1 := mem1 124 rfl
theorem w125 : (Jvm.Cond.privateMethod ({ cls := "XorGaussSat", name := "swapRows", desc := "(II)V" } : Jvm.MethodName)) ∈ tables_1 := mem1 125 rfl
theorem w127 : (Jvm.Cond.methodLink "XorGaussSat" (151 : Nat) ({ cls := "XorGaussSat", name := "clearColumn", desc := "(II)V" } : Jvm.MethodName)) ∈ tables_1 := mem1 127 rfl
theorem w128 : (Jvm.Cond.instanceMethod ({ cls := "XorGaussSat", name := "clearColumn", desc := "(II)V" } : Jvm.MethodName)) ∈ tables_1 := mem1 128 rfl
theorem w129 : (Jvm.Cond.privateMethod ({ cls := "XorGaussSat", name := "clearColumn", desc := "(II)V" } : Jvm.MethodName)) ∈ tables_1 := mem1 129 rfl
theorem w131 : (Jvm.Cond.methodLink "XorGaussSat" (160 : Nat) ({ cls := "XorGaussSat", name := "scratchConsistent", desc := "()Z" } : Jvm.MethodName)) ∈ tables_1 := mem1 131 rfl
theorem w132 : (Jvm.Cond.instanceMethod ({ cls := "XorGaussSat", name := "scratchConsistent", desc := "()Z" } : Jvm.MethodName)) ∈ tables_1 := mem1 132 rfl
theorem w133 : (Jvm.Cond.privateMethod ({ cls := "XorGaussSat", name := "scratchConsistent", desc := "()Z" } : Jvm.MethodName)) ∈ tables_1 := mem1 133 rfl
theorem w135 : (Jvm.Cond.methodLink "XorGaussSat" (171 : Nat) ({ cls := "XorGaussSat", name := "resetSearch", desc := "()V" } : Jvm.MethodName)) ∈ tables_1 := mem1 135 rfl
theorem w136 : (Jvm.Cond.instanceMethod ({ cls := "XorGaussSat", name := "resetSearch", desc := "()V" } : Jvm.MethodName)) ∈ tables_1 := mem1 136 rfl
theorem w137 : (Jvm.Cond.privateMethod ({ cls := "XorGaussSat", name := "resetSearch", desc := "()V" } : Jvm.MethodName)) ∈ tables_1 := mem1 137 rfl
theorem w139 : (Jvm.Cond.fieldLink "XorGaussSat" (183 : Nat) "XorGaussSat" "asgMask" "I") ∈ tables_1 := mem1 139 rfl
theorem w140 : (Jvm.Cond.lays "XorGaussSat" "XorGaussSat" "asgMask" "I") ∈ tables_1 := mem1 140 rfl
theorem w141 : (Jvm.Cond.fieldLink "XorGaussSat" (186 : Nat) "XorGaussSat" "asgVals" "I") ∈ tables_1 := mem1 141 rfl
theorem w142 : (Jvm.Cond.lays "XorGaussSat" "XorGaussSat" "asgVals" "I") ∈ tables_1 := mem1 142 rfl
theorem w143 : (Jvm.Cond.fieldLink "XorGaussSat" (195 : Nat) "XorGaussSat" "trailLen" "I") ∈ tables_1 := mem1 143 rfl
theorem w144 : (Jvm.Cond.lays "XorGaussSat" "XorGaussSat" "trailLen" "I") ∈ tables_1 := mem1 144 rfl
theorem w145 : (Jvm.Cond.fieldLink "XorGaussSat" (198 : Nat) "XorGaussSat" "lvlCnt" "I") ∈ tables_1 := mem1 145 rfl
theorem w146 : (Jvm.Cond.lays "XorGaussSat" "XorGaussSat" "lvlCnt" "I") ∈ tables_1 := mem1 146 rfl
theorem w147 : (Jvm.Cond.fieldLink "XorGaussSat" (116 : Nat) "XorGaussSat" "found" "I") ∈ tables_1 := mem1 147 rfl
theorem w148 : (Jvm.Cond.lays "XorGaussSat" "XorGaussSat" "found" "I") ∈ tables_1 := mem1 148 rfl
theorem w149 : (Jvm.Cond.methodLink "XorGaussSat" (177 : Nat) ({ cls := "XorGaussSat", name := "propagate", desc := "()Z" } : Jvm.MethodName)) ∈ tables_1 := mem1 149 rfl
theorem w150 : (Jvm.Cond.instanceMethod ({ cls := "XorGaussSat", name := "propagate", desc := "()Z" } : Jvm.MethodName)) ∈ tables_1 := mem1 150 rfl
theorem w151 : (Jvm.Cond.privateMethod ({ cls := "XorGaussSat", name := "propagate", desc := "()Z" } : Jvm.MethodName)) ∈ tables_1 := mem1 151 rfl
theorem w153 : (Jvm.Cond.methodLink "XorGaussSat" (207 : Nat) ({ cls := "XorGaussSat", name := "propagateClauses", desc := "()Z" } : Jvm.MethodName)) ∈ tables_1 := mem1 153 rfl
theorem w154 : (Jvm.Cond.instanceMethod ({ cls := "XorGaussSat", name := "propagateClauses", desc := "()Z" } : Jvm.MethodName)) ∈ tables_1 := mem1 154 rfl
theorem w155 : (Jvm.Cond.privateMethod ({ cls := "XorGaussSat", name := "propagateClauses", desc := "()Z" } : Jvm.MethodName)) ∈ tables_1 := mem1 155 rfl
theorem w157 : (Jvm.Cond.methodLink "XorGaussSat" (213 : Nat) ({ cls := "XorGaussSat", name := "propagateClause", desc := "(I)Z" } : Jvm.MethodName)) ∈ tables_1 := mem1 157 rfl
theorem w158 : (Jvm.Cond.instanceMethod ({ cls := "XorGaussSat", name := "propagateClause", desc := "(I)Z" } : Jvm.MethodName)) ∈ tables_1 := mem1 158 rfl
theorem w159 : (Jvm.Cond.privateMethod ({ cls := "XorGaussSat", name := "propagateClause", desc := "(I)Z" } : Jvm.MethodName)) ∈ tables_1 := mem1 159 rfl
theorem w161 : (Jvm.Cond.methodLink "XorGaussSat" (216 : Nat) ({ cls := "XorGaussSat", name := "isSingleBit", desc := "(I)Z" } : Jvm.MethodName)) ∈ tables_1 := mem1 161 rfl
theorem w162 : (Jvm.Cond.instanceMethod ({ cls := "XorGaussSat", name := "isSingleBit", desc := "(I)Z" } : Jvm.MethodName)) ∈ tables_1 := mem1 162 rfl
theorem w163 : (Jvm.Cond.privateMethod ({ cls := "XorGaussSat", name := "isSingleBit", desc := "(I)Z" } : Jvm.MethodName)) ∈ tables_1 := mem1 163 rfl
theorem w165 : (Jvm.Cond.methodLink "XorGaussSat" (210 : Nat) ({ cls := "XorGaussSat", name := "propagateXors", desc := "()Z" } : Jvm.MethodName)) ∈ tables_1 := mem1 165 rfl
theorem w166 : (Jvm.Cond.instanceMethod ({ cls := "XorGaussSat", name := "propagateXors", desc := "()Z" } : Jvm.MethodName)) ∈ tables_1 := mem1 166 rfl
theorem w167 : (Jvm.Cond.privateMethod ({ cls := "XorGaussSat", name := "propagateXors", desc := "()Z" } : Jvm.MethodName)) ∈ tables_1 := mem1 167 rfl
theorem w169 : (Jvm.Cond.methodLink "XorGaussSat" (222 : Nat) ({ cls := "XorGaussSat", name := "loadResidualRows", desc := "()V" } : Jvm.MethodName)) ∈ tables_1 := mem1 169 rfl
theorem w170 : (Jvm.Cond.instanceMethod ({ cls := "XorGaussSat", name := "loadResidualRows", desc := "()V" } : Jvm.MethodName)) ∈ tables_1 := mem1 170 rfl
theorem w171 : (Jvm.Cond.privateMethod ({ cls := "XorGaussSat", name := "loadResidualRows", desc := "()V" } : Jvm.MethodName)) ∈ tables_1 := mem1 171 rfl
theorem w173 : (Jvm.Cond.methodLink "XorGaussSat" (138 : Nat) ({ cls := "XorGaussSat", name := "parity", desc := "(I)I" } : Jvm.MethodName)) ∈ tables_1 := mem1 173 rfl
theorem w174 : (Jvm.Cond.instanceMethod ({ cls := "XorGaussSat", name := "parity", desc := "(I)I" } : Jvm.MethodName)) ∈ tables_1 := mem1 174 rfl
theorem w175 : (Jvm.Cond.privateMethod ({ cls := "XorGaussSat", name := "parity", desc := "(I)I" } : Jvm.MethodName)) ∈ tables_1 := mem1 175 rfl
theorem w177 : (Jvm.Cond.methodLink "XorGaussSat" (192 : Nat) ({ cls := "XorGaussSat", name := "decide", desc := "()V" } : Jvm.MethodName)) ∈ tables_1 := mem1 177 rfl
theorem w178 : (Jvm.Cond.instanceMethod ({ cls := "XorGaussSat", name := "decide", desc := "()V" } : Jvm.MethodName)) ∈ tables_1 := mem1 178 rfl
theorem w179 : (Jvm.Cond.privateMethod ({ cls := "XorGaussSat", name := "decide", desc := "()V" } : Jvm.MethodName)) ∈ tables_1 := mem1 179 rfl
theorem w181 : (Jvm.Cond.methodLink "XorGaussSat" (201 : Nat) ({ cls := "XorGaussSat", name := "lowestUnassigned", desc := "()I" } : Jvm.MethodName)) ∈ tables_1 := mem1 181 rfl
theorem w182 : (Jvm.Cond.instanceMethod ({ cls := "XorGaussSat", name := "lowestUnassigned", desc := "()I" } : Jvm.MethodName)) ∈ tables_1 := mem1 182 rfl
theorem w183 : (Jvm.Cond.privateMethod ({ cls := "XorGaussSat", name := "lowestUnassigned", desc := "()I" } : Jvm.MethodName)) ∈ tables_1 := mem1 183 rfl
theorem w185 : (Jvm.Cond.methodLink "XorGaussSat" (174 : Nat) ({ cls := "XorGaussSat", name := "assign", desc := "(II)V" } : Jvm.MethodName)) ∈ tables_1 := mem1 185 rfl
theorem w186 : (Jvm.Cond.instanceMethod ({ cls := "XorGaussSat", name := "assign", desc := "(II)V" } : Jvm.MethodName)) ∈ tables_1 := mem1 186 rfl
theorem w187 : (Jvm.Cond.privateMethod ({ cls := "XorGaussSat", name := "assign", desc := "(II)V" } : Jvm.MethodName)) ∈ tables_1 := mem1 187 rfl
theorem w189 : (Jvm.Cond.methodLink "XorGaussSat" (219 : Nat) ({ cls := "XorGaussSat", name := "lowestBit", desc := "(I)I" } : Jvm.MethodName)) ∈ tables_1 := mem1 189 rfl
theorem w190 : (Jvm.Cond.instanceMethod ({ cls := "XorGaussSat", name := "lowestBit", desc := "(I)I" } : Jvm.MethodName)) ∈ tables_1 := mem1 190 rfl
theorem w191 : (Jvm.Cond.privateMethod ({ cls := "XorGaussSat", name := "lowestBit", desc := "(I)I" } : Jvm.MethodName)) ∈ tables_1 := mem1 191 rfl
theorem w193 : (Jvm.Cond.methodLink "XorGaussSat" (189 : Nat) ({ cls := "XorGaussSat", name := "violations", desc := "(I)I" } : Jvm.MethodName)) ∈ tables_1 := mem1 193 rfl
theorem w194 : (Jvm.Cond.declares ({ cls := "XorGaussSat", name := "violations", desc := "(I)I" } : Jvm.MethodName)) ∈ tables_1 := mem1 194 rfl
theorem w195 : (Jvm.Cond.instanceMethod ({ cls := "XorGaussSat", name := "violations", desc := "(I)I" } : Jvm.MethodName)) ∈ tables_1 := mem1 195 rfl
theorem w196 : (Jvm.Cond.selects "XorGaussSat" ({ cls := "XorGaussSat", name := "violations", desc := "(I)I" } : Jvm.MethodName) ({ cls := "XorGaussSat", name := "violations", desc := "(I)I" } : Jvm.MethodName)) ∈ tables_1 := mem1 196 rfl
theorem w198 : (Jvm.Cond.methodLink "XorGaussSat" (119 : Nat) ({ cls := "XorGaussSat", name := "clauseHolds", desc := "(II)Z" } : Jvm.MethodName)) ∈ tables_1 := mem1 198 rfl
theorem w199 : (Jvm.Cond.instanceMethod ({ cls := "XorGaussSat", name := "clauseHolds", desc := "(II)Z" } : Jvm.MethodName)) ∈ tables_1 := mem1 199 rfl
theorem w200 : (Jvm.Cond.privateMethod ({ cls := "XorGaussSat", name := "clauseHolds", desc := "(II)Z" } : Jvm.MethodName)) ∈ tables_1 := mem1 200 rfl
theorem w202 : (Jvm.Cond.methodLink "XorGaussSat" (122 : Nat) ({ cls := "XorGaussSat", name := "xorHolds", desc := "(II)Z" } : Jvm.MethodName)) ∈ tables_1 := mem1 202 rfl
theorem w203 : (Jvm.Cond.instanceMethod ({ cls := "XorGaussSat", name := "xorHolds", desc := "(II)Z" } : Jvm.MethodName)) ∈ tables_1 := mem1 203 rfl
theorem w204 : (Jvm.Cond.privateMethod ({ cls := "XorGaussSat", name := "xorHolds", desc := "(II)Z" } : Jvm.MethodName)) ∈ tables_1 := mem1 204 rfl
theorem w206 : (Jvm.Cond.methodLink "XorGaussSatL3" (27 : Nat) ({ cls := "XorGaussSat", name := "status", desc := "()I" } : Jvm.MethodName)) ∈ tables_1 := mem1 206 rfl
theorem w207 : (Jvm.Cond.declares ({ cls := "XorGaussSat", name := "status", desc := "()I" } : Jvm.MethodName)) ∈ tables_1 := mem1 207 rfl
theorem w208 : (Jvm.Cond.instanceMethod ({ cls := "XorGaussSat", name := "status", desc := "()I" } : Jvm.MethodName)) ∈ tables_1 := mem1 208 rfl
theorem w209 : (Jvm.Cond.selects "XorGaussSat" ({ cls := "XorGaussSat", name := "status", desc := "()I" } : Jvm.MethodName) ({ cls := "XorGaussSat", name := "status", desc := "()I" } : Jvm.MethodName)) ∈ tables_1 := mem1 209 rfl
theorem w211 : (Jvm.Cond.methodLink "XorGaussSatL3" (30 : Nat) ({ cls := "XorGaussSat", name := "modelBits", desc := "()I" } : Jvm.MethodName)) ∈ tables_1 := mem1 211 rfl
theorem w212 : (Jvm.Cond.declares ({ cls := "XorGaussSat", name := "modelBits", desc := "()I" } : Jvm.MethodName)) ∈ tables_1 := mem1 212 rfl
theorem w213 : (Jvm.Cond.instanceMethod ({ cls := "XorGaussSat", name := "modelBits", desc := "()I" } : Jvm.MethodName)) ∈ tables_1 := mem1 213 rfl
theorem w214 : (Jvm.Cond.selects "XorGaussSat" ({ cls := "XorGaussSat", name := "modelBits", desc := "()I" } : Jvm.MethodName) ({ cls := "XorGaussSat", name := "modelBits", desc := "()I" } : Jvm.MethodName)) ∈ tables_1 := mem1 214 rfl
theorem w216 : (Jvm.Cond.methodLink "XorGaussSatL3" (33 : Nat) ({ cls := "XorGaussSat", name := "value", desc := "(I)I" } : Jvm.MethodName)) ∈ tables_1 := mem1 216 rfl
theorem w217 : (Jvm.Cond.declares ({ cls := "XorGaussSat", name := "value", desc := "(I)I" } : Jvm.MethodName)) ∈ tables_1 := mem1 217 rfl
theorem w218 : (Jvm.Cond.instanceMethod ({ cls := "XorGaussSat", name := "value", desc := "(I)I" } : Jvm.MethodName)) ∈ tables_1 := mem1 218 rfl
theorem w219 : (Jvm.Cond.selects "XorGaussSat" ({ cls := "XorGaussSat", name := "value", desc := "(I)I" } : Jvm.MethodName) ({ cls := "XorGaussSat", name := "value", desc := "(I)I" } : Jvm.MethodName)) ∈ tables_1 := mem1 219 rfl
theorem w221 : (Jvm.Cond.methodLink "XorGaussSatL3" (37 : Nat) ({ cls := "XorGaussSat", name := "countModels", desc := "()I" } : Jvm.MethodName)) ∈ tables_1 := mem1 221 rfl
theorem w222 : (Jvm.Cond.declares ({ cls := "XorGaussSat", name := "countModels", desc := "()I" } : Jvm.MethodName)) ∈ tables_1 := mem1 222 rfl
theorem w223 : (Jvm.Cond.instanceMethod ({ cls := "XorGaussSat", name := "countModels", desc := "()I" } : Jvm.MethodName)) ∈ tables_1 := mem1 223 rfl
theorem w224 : (Jvm.Cond.selects "XorGaussSat" ({ cls := "XorGaussSat", name := "countModels", desc := "()I" } : Jvm.MethodName) ({ cls := "XorGaussSat", name := "countModels", desc := "()I" } : Jvm.MethodName)) ∈ tables_1 := mem1 224 rfl
theorem w226 : (Jvm.Cond.methodLink "XorGaussSat" (128 : Nat) ({ cls := "XorGaussSat", name := "echPivotMask", desc := "()I" } : Jvm.MethodName)) ∈ tables_1 := mem1 226 rfl
theorem w227 : (Jvm.Cond.instanceMethod ({ cls := "XorGaussSat", name := "echPivotMask", desc := "()I" } : Jvm.MethodName)) ∈ tables_1 := mem1 227 rfl
theorem w228 : (Jvm.Cond.privateMethod ({ cls := "XorGaussSat", name := "echPivotMask", desc := "()I" } : Jvm.MethodName)) ∈ tables_1 := mem1 228 rfl
theorem w230 : (Jvm.Cond.methodLink "XorGaussSat" (135 : Nat) ({ cls := "XorGaussSat", name := "countAffinePoints", desc := "(I)I" } : Jvm.MethodName)) ∈ tables_1 := mem1 230 rfl
theorem w231 : (Jvm.Cond.instanceMethod ({ cls := "XorGaussSat", name := "countAffinePoints", desc := "(I)I" } : Jvm.MethodName)) ∈ tables_1 := mem1 231 rfl
theorem w232 : (Jvm.Cond.privateMethod ({ cls := "XorGaussSat", name := "countAffinePoints", desc := "(I)I" } : Jvm.MethodName)) ∈ tables_1 := mem1 232 rfl
theorem w234 : (Jvm.Cond.methodLink "XorGaussSat" (164 : Nat) ({ cls := "XorGaussSat", name := "completeFromFree", desc := "(I)I" } : Jvm.MethodName)) ∈ tables_1 := mem1 234 rfl
theorem w235 : (Jvm.Cond.instanceMethod ({ cls := "XorGaussSat", name := "completeFromFree", desc := "(I)I" } : Jvm.MethodName)) ∈ tables_1 := mem1 235 rfl
theorem w236 : (Jvm.Cond.privateMethod ({ cls := "XorGaussSat", name := "completeFromFree", desc := "(I)I" } : Jvm.MethodName)) ∈ tables_1 := mem1 236 rfl
theorem w238 : (Jvm.Cond.methodLink "XorGaussSat" (167 : Nat) ({ cls := "XorGaussSat", name := "allClausesHold", desc := "(I)Z" } : Jvm.MethodName)) ∈ tables_1 := mem1 238 rfl
theorem w239 : (Jvm.Cond.instanceMethod ({ cls := "XorGaussSat", name := "allClausesHold", desc := "(I)Z" } : Jvm.MethodName)) ∈ tables_1 := mem1 239 rfl
theorem w240 : (Jvm.Cond.privateMethod ({ cls := "XorGaussSat", name := "allClausesHold", desc := "(I)Z" } : Jvm.MethodName)) ∈ tables_1 := mem1 240 rfl
theorem w242 : (Jvm.Cond.methodLink "XorGaussSatL3" (40 : Nat) ({ cls := "XorGaussSat", name := "backbone", desc := "(I)I" } : Jvm.MethodName)) ∈ tables_1 := mem1 242 rfl
theorem w243 : (Jvm.Cond.declares ({ cls := "XorGaussSat", name := "backbone", desc := "(I)I" } : Jvm.MethodName)) ∈ tables_1 := mem1 243 rfl
theorem w244 : (Jvm.Cond.instanceMethod ({ cls := "XorGaussSat", name := "backbone", desc := "(I)I" } : Jvm.MethodName)) ∈ tables_1 := mem1 244 rfl
theorem w245 : (Jvm.Cond.selects "XorGaussSat" ({ cls := "XorGaussSat", name := "backbone", desc := "(I)I" } : Jvm.MethodName) ({ cls := "XorGaussSat", name := "backbone", desc := "(I)I" } : Jvm.MethodName)) ∈ tables_1 := mem1 245 rfl
theorem w247 : (Jvm.Cond.methodLink "XorGaussSatL3" (43 : Nat) ({ cls := "XorGaussSatL3", name := "bb", desc := "(II)I" } : Jvm.MethodName)) ∈ tables_1 := mem1 247 rfl
theorem w248 : (Jvm.Cond.static ({ cls := "XorGaussSatL3", name := "bb", desc := "(II)I" } : Jvm.MethodName)) ∈ tables_1 := mem1 248 rfl
theorem w251 : (Jvm.Cond.methodLink "XorGaussSat" (180 : Nat) ({ cls := "XorGaussSat", name := "backtrack", desc := "()Z" } : Jvm.MethodName)) ∈ tables_1 := mem1 251 rfl
theorem w252 : (Jvm.Cond.instanceMethod ({ cls := "XorGaussSat", name := "backtrack", desc := "()Z" } : Jvm.MethodName)) ∈ tables_1 := mem1 252 rfl
theorem w253 : (Jvm.Cond.privateMethod ({ cls := "XorGaussSat", name := "backtrack", desc := "()Z" } : Jvm.MethodName)) ∈ tables_1 := mem1 253 rfl
theorem w255 : (Jvm.Cond.methodLink "XorGaussSat" (204 : Nat) ({ cls := "XorGaussSat", name := "undoTo", desc := "(I)V" } : Jvm.MethodName)) ∈ tables_1 := mem1 255 rfl
theorem w256 : (Jvm.Cond.instanceMethod ({ cls := "XorGaussSat", name := "undoTo", desc := "(I)V" } : Jvm.MethodName)) ∈ tables_1 := mem1 256 rfl
theorem w257 : (Jvm.Cond.privateMethod ({ cls := "XorGaussSat", name := "undoTo", desc := "(I)V" } : Jvm.MethodName)) ∈ tables_1 := mem1 257 rfl
theorem fS_0 : K.2.1[0]? = some ("n", "I") := rfl
theorem fS_1 : K.2.1[1]? = some ("fullMask", "I") := rfl
theorem fS_2 : K.2.1[2]? = some ("status", "I") := rfl
theorem fS_3 : K.2.1[3]? = some ("model", "I") := rfl
theorem fS_4 : K.2.1[4]? = some ("pendLen", "I") := rfl
theorem fS_5 : K.2.1[5]? = some ("clauseCnt", "I") := rfl
theorem fS_6 : K.2.1[6]? = some ("xorCnt", "I") := rfl
theorem fS_7 : K.2.1[7]? = some ("orderLen", "I") := rfl
theorem fS_8 : K.2.1[8]? = some ("echRank", "I") := rfl
theorem fS_9 : K.2.1[9]? = some ("echConsistent", "Z") := rfl
theorem fS_10 : K.2.1[10]? = some ("echValid", "Z") := rfl
theorem fS_11 : K.2.1[11]? = some ("gRows", "I") := rfl
theorem fS_12 : K.2.1[12]? = some ("gRank", "I") := rfl
theorem fS_13 : K.2.1[13]? = some ("asgMask", "I") := rfl
theorem fS_14 : K.2.1[14]? = some ("asgVals", "I") := rfl
theorem fS_15 : K.2.1[15]? = some ("trailLen", "I") := rfl
theorem fS_16 : K.2.1[16]? = some ("lvlCnt", "I") := rfl
theorem fS_17 : K.2.1[17]? = some ("found", "I") := rfl
theorem fA_0 : K.2.2[0]? = some ("pendVar", .int, (8 : Int32)) := rfl
theorem fA_1 : K.2.2[1]? = some ("pendNeg", .boolean, (8 : Int32)) := rfl
theorem fA_2 : K.2.2[2]? = some ("clausePos", .int, (24 : Int32)) := rfl
theorem fA_3 : K.2.2[3]? = some ("clauseNeg", .int, (24 : Int32)) := rfl
theorem fA_4 : K.2.2[4]? = some ("xorMask", .int, (16 : Int32)) := rfl
theorem fA_5 : K.2.2[5]? = some ("xorRhs", .int, (16 : Int32)) := rfl
theorem fA_6 : K.2.2[6]? = some ("order", .int, (40 : Int32)) := rfl
theorem fA_7 : K.2.2[7]? = some ("echMask", .int, (16 : Int32)) := rfl
theorem fA_8 : K.2.2[8]? = some ("echRhs", .int, (16 : Int32)) := rfl
theorem fA_9 : K.2.2[9]? = some ("echPivot", .int, (16 : Int32)) := rfl
theorem fA_10 : K.2.2[10]? = some ("gMask", .int, (16 : Int32)) := rfl
theorem fA_11 : K.2.2[11]? = some ("gRhs", .int, (16 : Int32)) := rfl
theorem fA_12 : K.2.2[12]? = some ("gPivot", .int, (16 : Int32)) := rfl
theorem fA_13 : K.2.2[13]? = some ("trail", .int, (12 : Int32)) := rfl
theorem fA_14 : K.2.2[14]? = some ("lvlVar", .int, (13 : Int32)) := rfl
theorem fA_15 : K.2.2[15]? = some ("lvlStart", .int, (13 : Int32)) := rfl
theorem fA_16 : K.2.2[16]? = some ("lvlFlipped", .boolean, (13 : Int32)) := rfl
theorem cb_m2 : (Int8.ofInt (-2)).toInt32 = (-2 : Int32) := by decide
theorem cb_7 : (Int8.ofInt 7).toInt32 = (7 : Int32) := by decide
theorem cb_8 : (Int8.ofInt 8).toInt32 = (8 : Int32) := by decide
theorem cb_12 : (Int8.ofInt 12).toInt32 = (12 : Int32) := by decide
theorem cb_13 : (Int8.ofInt 13).toInt32 = (13 : Int32) := by decide
theorem cb_14 : (Int8.ofInt 14).toInt32 = (14 : Int32) := by decide
theorem cb_16 : (Int8.ofInt 16).toInt32 = (16 : Int32) := by decide
theorem cb_24 : (Int8.ofInt 24).toInt32 = (24 : Int32) := by decide
theorem cb_32 : (Int8.ofInt 32).toInt32 = (32 : Int32) := by decide
theorem cb_40 : (Int8.ofInt 40).toInt32 = (40 : Int32) := by decide
theorem ci_m1 : Int32.ofInt (-1) = (-1 : Int32) := by decide
theorem ci_0 : Int32.ofInt 0 = (0 : Int32) := by decide
theorem ci_1 : Int32.ofInt 1 = (1 : Int32) := by decide
theorem ci_2 : Int32.ofInt 2 = (2 : Int32) := by decide
theorem ci_3 : Int32.ofInt 3 = (3 : Int32) := by decide
theorem ci_4 : Int32.ofInt 4 = (4 : Int32) := by decide
theorem cs_4097 : (Int16.ofInt 4097).toInt32 = (4097 : Int32) := by decide
theorem cs_16384 : (Int16.ofInt 16384).toInt32 = (16384 : Int32) := by decide
def B1 : Bdy := ((⟨"XorGaussSat", "<init>", "(I)V"⟩ : MethodName), prog_1_method_1_code, 3, none, ({ frames := 1, cells := 17, slots := 283, locals := 12 } : Room))
theorem d1_0 : DAt B1 0 (.aload_n 0) 1 1 := ⟨by decide +kernel, rfl⟩
theorem d1_1 : DAt B1 1 (.invokespecial 1) 3 4 := ⟨by decide +kernel, rfl⟩
theorem d1_4 : DAt B1 4 (.aload_n 0) 1 5 := ⟨by decide +kernel, rfl⟩
theorem d1_5 : DAt B1 5 (.bipush 8) 2 7 := ⟨by decide +kernel, rfl⟩
theorem d1_7 : DAt B1 7 (.newarray .int) 2 9 := ⟨by decide +kernel, rfl⟩
theorem d1_9 : DAt B1 9 (.putfield 7) 3 12 := ⟨by decide +kernel, rfl⟩
theorem d1_12 : DAt B1 12 (.aload_n 0) 1 13 := ⟨by decide +kernel, rfl⟩
theorem d1_13 : DAt B1 13 (.bipush 8) 2 15 := ⟨by decide +kernel, rfl⟩
theorem d1_15 : DAt B1 15 (.newarray .boolean) 2 17 := ⟨by decide +kernel, rfl⟩
theorem d1_17 : DAt B1 17 (.putfield 13) 3 20 := ⟨by decide +kernel, rfl⟩
theorem d1_20 : DAt B1 20 (.aload_n 0) 1 21 := ⟨by decide +kernel, rfl⟩
theorem d1_21 : DAt B1 21 (.bipush 24) 2 23 := ⟨by decide +kernel, rfl⟩
theorem d1_23 : DAt B1 23 (.newarray .int) 2 25 := ⟨by decide +kernel, rfl⟩
theorem d1_25 : DAt B1 25 (.putfield 17) 3 28 := ⟨by decide +kernel, rfl⟩
theorem d1_28 : DAt B1 28 (.aload_n 0) 1 29 := ⟨by decide +kernel, rfl⟩
theorem d1_29 : DAt B1 29 (.bipush 24) 2 31 := ⟨by decide +kernel, rfl⟩
theorem d1_31 : DAt B1 31 (.newarray .int) 2 33 := ⟨by decide +kernel, rfl⟩
theorem d1_33 : DAt B1 33 (.putfield 20) 3 36 := ⟨by decide +kernel, rfl⟩
theorem d1_36 : DAt B1 36 (.aload_n 0) 1 37 := ⟨by decide +kernel, rfl⟩
theorem d1_37 : DAt B1 37 (.bipush 16) 2 39 := ⟨by decide +kernel, rfl⟩
theorem d1_39 : DAt B1 39 (.newarray .int) 2 41 := ⟨by decide +kernel, rfl⟩
theorem d1_41 : DAt B1 41 (.putfield 23) 3 44 := ⟨by decide +kernel, rfl⟩
theorem d1_44 : DAt B1 44 (.aload_n 0) 1 45 := ⟨by decide +kernel, rfl⟩
theorem d1_45 : DAt B1 45 (.bipush 16) 2 47 := ⟨by decide +kernel, rfl⟩
theorem d1_47 : DAt B1 47 (.newarray .int) 2 49 := ⟨by decide +kernel, rfl⟩
theorem d1_49 : DAt B1 49 (.putfield 26) 3 52 := ⟨by decide +kernel, rfl⟩
theorem d1_52 : DAt B1 52 (.aload_n 0) 1 53 := ⟨by decide +kernel, rfl⟩
theorem d1_53 : DAt B1 53 (.bipush 40) 2 55 := ⟨by decide +kernel, rfl⟩
theorem d1_55 : DAt B1 55 (.newarray .int) 2 57 := ⟨by decide +kernel, rfl⟩
theorem d1_57 : DAt B1 57 (.putfield 29) 3 60 := ⟨by decide +kernel, rfl⟩
theorem d1_60 : DAt B1 60 (.aload_n 0) 1 61 := ⟨by decide +kernel, rfl⟩
theorem d1_61 : DAt B1 61 (.bipush 16) 2 63 := ⟨by decide +kernel, rfl⟩
theorem d1_63 : DAt B1 63 (.newarray .int) 2 65 := ⟨by decide +kernel, rfl⟩
theorem d1_65 : DAt B1 65 (.putfield 32) 3 68 := ⟨by decide +kernel, rfl⟩
theorem d1_68 : DAt B1 68 (.aload_n 0) 1 69 := ⟨by decide +kernel, rfl⟩
theorem d1_69 : DAt B1 69 (.bipush 16) 2 71 := ⟨by decide +kernel, rfl⟩
theorem d1_71 : DAt B1 71 (.newarray .int) 2 73 := ⟨by decide +kernel, rfl⟩
theorem d1_73 : DAt B1 73 (.putfield 35) 3 76 := ⟨by decide +kernel, rfl⟩
theorem d1_76 : DAt B1 76 (.aload_n 0) 1 77 := ⟨by decide +kernel, rfl⟩
theorem d1_77 : DAt B1 77 (.bipush 16) 2 79 := ⟨by decide +kernel, rfl⟩
theorem d1_79 : DAt B1 79 (.newarray .int) 2 81 := ⟨by decide +kernel, rfl⟩
theorem d1_81 : DAt B1 81 (.putfield 38) 3 84 := ⟨by decide +kernel, rfl⟩
theorem d1_84 : DAt B1 84 (.aload_n 0) 1 85 := ⟨by decide +kernel, rfl⟩
theorem d1_85 : DAt B1 85 (.bipush 16) 2 87 := ⟨by decide +kernel, rfl⟩
theorem d1_87 : DAt B1 87 (.newarray .int) 2 89 := ⟨by decide +kernel, rfl⟩
theorem d1_89 : DAt B1 89 (.putfield 41) 3 92 := ⟨by decide +kernel, rfl⟩
theorem d1_92 : DAt B1 92 (.aload_n 0) 1 93 := ⟨by decide +kernel, rfl⟩
theorem d1_93 : DAt B1 93 (.bipush 16) 2 95 := ⟨by decide +kernel, rfl⟩
theorem d1_95 : DAt B1 95 (.newarray .int) 2 97 := ⟨by decide +kernel, rfl⟩
theorem d1_97 : DAt B1 97 (.putfield 44) 3 100 := ⟨by decide +kernel, rfl⟩
theorem d1_100 : DAt B1 100 (.aload_n 0) 1 101 := ⟨by decide +kernel, rfl⟩
theorem d1_101 : DAt B1 101 (.bipush 16) 2 103 := ⟨by decide +kernel, rfl⟩
theorem d1_103 : DAt B1 103 (.newarray .int) 2 105 := ⟨by decide +kernel, rfl⟩
theorem d1_105 : DAt B1 105 (.putfield 47) 3 108 := ⟨by decide +kernel, rfl⟩
theorem d1_108 : DAt B1 108 (.aload_n 0) 1 109 := ⟨by decide +kernel, rfl⟩
theorem d1_109 : DAt B1 109 (.bipush 12) 2 111 := ⟨by decide +kernel, rfl⟩
theorem d1_111 : DAt B1 111 (.newarray .int) 2 113 := ⟨by decide +kernel, rfl⟩
theorem d1_113 : DAt B1 113 (.putfield 50) 3 116 := ⟨by decide +kernel, rfl⟩
theorem d1_116 : DAt B1 116 (.aload_n 0) 1 117 := ⟨by decide +kernel, rfl⟩
theorem d1_117 : DAt B1 117 (.bipush 13) 2 119 := ⟨by decide +kernel, rfl⟩
theorem d1_119 : DAt B1 119 (.newarray .int) 2 121 := ⟨by decide +kernel, rfl⟩
theorem d1_121 : DAt B1 121 (.putfield 53) 3 124 := ⟨by decide +kernel, rfl⟩
theorem d1_124 : DAt B1 124 (.aload_n 0) 1 125 := ⟨by decide +kernel, rfl⟩
theorem d1_125 : DAt B1 125 (.bipush 13) 2 127 := ⟨by decide +kernel, rfl⟩
theorem d1_127 : DAt B1 127 (.newarray .int) 2 129 := ⟨by decide +kernel, rfl⟩
theorem d1_129 : DAt B1 129 (.putfield 56) 3 132 := ⟨by decide +kernel, rfl⟩
theorem d1_132 : DAt B1 132 (.aload_n 0) 1 133 := ⟨by decide +kernel, rfl⟩
theorem d1_133 : DAt B1 133 (.bipush 13) 2 135 := ⟨by decide +kernel, rfl⟩
theorem d1_135 : DAt B1 135 (.newarray .boolean) 2 137 := ⟨by decide +kernel, rfl⟩
theorem d1_137 : DAt B1 137 (.putfield 59) 3 140 := ⟨by decide +kernel, rfl⟩
theorem d1_140 : DAt B1 140 (.iload_n 1) 1 141 := ⟨by decide +kernel, rfl⟩
theorem d1_141 : DAt B1 141 (.istore_n 2) 1 142 := ⟨by decide +kernel, rfl⟩
theorem d1_142 : DAt B1 142 (.iload_n 2) 1 143 := ⟨by decide +kernel, rfl⟩
theorem d1_143 : DAt B1 143 (.iconst 1) 1 144 := ⟨by decide +kernel, rfl⟩
theorem d1_144 : DAt B1 144 (.if_icmp .ge 5) 3 147 := ⟨by decide +kernel, rfl⟩
theorem d1_147 : DAt B1 147 (.iconst 1) 1 148 := ⟨by decide +kernel, rfl⟩
theorem d1_148 : DAt B1 148 (.istore_n 2) 1 149 := ⟨by decide +kernel, rfl⟩
theorem d1_149 : DAt B1 149 (.iload_n 2) 1 150 := ⟨by decide +kernel, rfl⟩
theorem d1_150 : DAt B1 150 (.bipush 12) 2 152 := ⟨by decide +kernel, rfl⟩
theorem d1_152 : DAt B1 152 (.if_icmp .le 6) 3 155 := ⟨by decide +kernel, rfl⟩
theorem d1_155 : DAt B1 155 (.bipush 12) 2 157 := ⟨by decide +kernel, rfl⟩
theorem d1_157 : DAt B1 157 (.istore_n 2) 1 158 := ⟨by decide +kernel, rfl⟩
theorem d1_158 : DAt B1 158 (.aload_n 0) 1 159 := ⟨by decide +kernel, rfl⟩
theorem d1_159 : DAt B1 159 (.iload_n 2) 1 160 := ⟨by decide +kernel, rfl⟩
theorem d1_160 : DAt B1 160 (.putfield 62) 3 163 := ⟨by decide +kernel, rfl⟩
theorem d1_163 : DAt B1 163 (.aload_n 0) 1 164 := ⟨by decide +kernel, rfl⟩
theorem d1_164 : DAt B1 164 (.iconst 1) 1 165 := ⟨by decide +kernel, rfl⟩
theorem d1_165 : DAt B1 165 (.iload_n 2) 1 166 := ⟨by decide +kernel, rfl⟩
theorem d1_166 : DAt B1 166 (.ishl) 1 167 := ⟨by decide +kernel, rfl⟩
theorem d1_167 : DAt B1 167 (.iconst 1) 1 168 := ⟨by decide +kernel, rfl⟩
theorem d1_168 : DAt B1 168 (.isub) 1 169 := ⟨by decide +kernel, rfl⟩
theorem d1_169 : DAt B1 169 (.putfield 66) 3 172 := ⟨by decide +kernel, rfl⟩
theorem d1_172 : DAt B1 172 (.aload_n 0) 1 173 := ⟨by decide +kernel, rfl⟩
theorem d1_173 : DAt B1 173 (.iconst 2) 1 174 := ⟨by decide +kernel, rfl⟩
theorem d1_174 : DAt B1 174 (.putfield 69) 3 177 := ⟨by decide +kernel, rfl⟩
theorem d1_177 : DAt B1 177 (.aload_n 0) 1 178 := ⟨by decide +kernel, rfl⟩
theorem d1_178 : DAt B1 178 (.iconst 0) 1 179 := ⟨by decide +kernel, rfl⟩
theorem d1_179 : DAt B1 179 (.putfield 72) 3 182 := ⟨by decide +kernel, rfl⟩
theorem d1_182 : DAt B1 182 (.aload_n 0) 1 183 := ⟨by decide +kernel, rfl⟩
theorem d1_183 : DAt B1 183 (.iconst 0) 1 184 := ⟨by decide +kernel, rfl⟩
theorem d1_184 : DAt B1 184 (.putfield 75) 3 187 := ⟨by decide +kernel, rfl⟩
theorem d1_187 : DAt B1 187 (.aload_n 0) 1 188 := ⟨by decide +kernel, rfl⟩
theorem d1_188 : DAt B1 188 (.iconst 0) 1 189 := ⟨by decide +kernel, rfl⟩
theorem d1_189 : DAt B1 189 (.putfield 78) 3 192 := ⟨by decide +kernel, rfl⟩
theorem d1_192 : DAt B1 192 (.aload_n 0) 1 193 := ⟨by decide +kernel, rfl⟩
theorem d1_193 : DAt B1 193 (.iconst 0) 1 194 := ⟨by decide +kernel, rfl⟩
theorem d1_194 : DAt B1 194 (.putfield 81) 3 197 := ⟨by decide +kernel, rfl⟩
theorem d1_197 : DAt B1 197 (.aload_n 0) 1 198 := ⟨by decide +kernel, rfl⟩
theorem d1_198 : DAt B1 198 (.iconst 0) 1 199 := ⟨by decide +kernel, rfl⟩
theorem d1_199 : DAt B1 199 (.putfield 84) 3 202 := ⟨by decide +kernel, rfl⟩
theorem d1_202 : DAt B1 202 (.aload_n 0) 1 203 := ⟨by decide +kernel, rfl⟩
theorem d1_203 : DAt B1 203 (.iconst 0) 1 204 := ⟨by decide +kernel, rfl⟩
theorem d1_204 : DAt B1 204 (.putfield 87) 3 207 := ⟨by decide +kernel, rfl⟩
theorem d1_207 : DAt B1 207 (.aload_n 0) 1 208 := ⟨by decide +kernel, rfl⟩
theorem d1_208 : DAt B1 208 (.iconst 1) 1 209 := ⟨by decide +kernel, rfl⟩
theorem d1_209 : DAt B1 209 (.putfield 91) 3 212 := ⟨by decide +kernel, rfl⟩
theorem d1_212 : DAt B1 212 (.aload_n 0) 1 213 := ⟨by decide +kernel, rfl⟩
theorem d1_213 : DAt B1 213 (.iconst 0) 1 214 := ⟨by decide +kernel, rfl⟩
theorem d1_214 : DAt B1 214 (.putfield 94) 3 217 := ⟨by decide +kernel, rfl⟩
theorem d1_217 : DAt B1 217 (.return_) 1 218 := ⟨by decide +kernel, rfl⟩
def B2 : Bdy := ((⟨"XorGaussSat", "addLiteral", "(IZ)I"⟩ : MethodName), prog_1_method_3_code, 3, (some .int), ({ frames := 0, cells := 0, slots := 0, locals := 0 } : Room))
theorem d2_0 : DAt B2 0 (.iload_n 1) 1 1 := ⟨by decide +kernel, rfl⟩
theorem d2_1 : DAt B2 1 (.ifCond .lt 11) 3 4 := ⟨by decide +kernel, rfl⟩
theorem d2_4 : DAt B2 4 (.iload_n 1) 1 5 := ⟨by decide +kernel, rfl⟩
theorem d2_5 : DAt B2 5 (.aload_n 0) 1 6 := ⟨by decide +kernel, rfl⟩
theorem d2_6 : DAt B2 6 (.getfield 62) 3 9 := ⟨by decide +kernel, rfl⟩
theorem d2_9 : DAt B2 9 (.if_icmp .lt 5) 3 12 := ⟨by decide +kernel, rfl⟩
theorem d2_12 : DAt B2 12 (.iconst (-1)) 1 13 := ⟨by decide +kernel, rfl⟩
theorem d2_13 : DAt B2 13 (.ireturn) 1 14 := ⟨by decide +kernel, rfl⟩
theorem d2_14 : DAt B2 14 (.aload_n 0) 1 15 := ⟨by decide +kernel, rfl⟩
theorem d2_15 : DAt B2 15 (.getfield 75) 3 18 := ⟨by decide +kernel, rfl⟩
theorem d2_18 : DAt B2 18 (.bipush 8) 2 20 := ⟨by decide +kernel, rfl⟩
theorem d2_20 : DAt B2 20 (.if_icmp .lt 6) 3 23 := ⟨by decide +kernel, rfl⟩
theorem d2_23 : DAt B2 23 (.bipush (-2)) 2 25 := ⟨by decide +kernel, rfl⟩
theorem d2_25 : DAt B2 25 (.ireturn) 1 26 := ⟨by decide +kernel, rfl⟩
theorem d2_26 : DAt B2 26 (.aload_n 0) 1 27 := ⟨by decide +kernel, rfl⟩
theorem d2_27 : DAt B2 27 (.getfield 7) 3 30 := ⟨by decide +kernel, rfl⟩
theorem d2_30 : DAt B2 30 (.aload_n 0) 1 31 := ⟨by decide +kernel, rfl⟩
theorem d2_31 : DAt B2 31 (.getfield 75) 3 34 := ⟨by decide +kernel, rfl⟩
theorem d2_34 : DAt B2 34 (.iload_n 1) 1 35 := ⟨by decide +kernel, rfl⟩
theorem d2_35 : DAt B2 35 (.iastore) 1 36 := ⟨by decide +kernel, rfl⟩
theorem d2_36 : DAt B2 36 (.aload_n 0) 1 37 := ⟨by decide +kernel, rfl⟩
theorem d2_37 : DAt B2 37 (.getfield 13) 3 40 := ⟨by decide +kernel, rfl⟩
theorem d2_40 : DAt B2 40 (.aload_n 0) 1 41 := ⟨by decide +kernel, rfl⟩
theorem d2_41 : DAt B2 41 (.getfield 75) 3 44 := ⟨by decide +kernel, rfl⟩
theorem d2_44 : DAt B2 44 (.iload_n 2) 1 45 := ⟨by decide +kernel, rfl⟩
theorem d2_45 : DAt B2 45 (.bastore) 1 46 := ⟨by decide +kernel, rfl⟩
theorem d2_46 : DAt B2 46 (.aload_n 0) 1 47 := ⟨by decide +kernel, rfl⟩
theorem d2_47 : DAt B2 47 (.dup) 1 48 := ⟨by decide +kernel, rfl⟩
theorem d2_48 : DAt B2 48 (.getfield 75) 3 51 := ⟨by decide +kernel, rfl⟩
theorem d2_51 : DAt B2 51 (.iconst 1) 1 52 := ⟨by decide +kernel, rfl⟩
theorem d2_52 : DAt B2 52 (.iadd) 1 53 := ⟨by decide +kernel, rfl⟩
theorem d2_53 : DAt B2 53 (.putfield 75) 3 56 := ⟨by decide +kernel, rfl⟩
theorem d2_56 : DAt B2 56 (.aload_n 0) 1 57 := ⟨by decide +kernel, rfl⟩
theorem d2_57 : DAt B2 57 (.getfield 75) 3 60 := ⟨by decide +kernel, rfl⟩
theorem d2_60 : DAt B2 60 (.ireturn) 1 61 := ⟨by decide +kernel, rfl⟩
def B4 : Bdy := ((⟨"XorGaussSat", "pendingNegatedParity", "()I"⟩ : MethodName), prog_1_method_20_code, 3, (some .int), ({ frames := 0, cells := 0, slots := 0, locals := 0 } : Room))
theorem d4_0 : DAt B4 0 (.iconst 0) 1 1 := ⟨by decide +kernel, rfl⟩
theorem d4_1 : DAt B4 1 (.istore_n 1) 1 2 := ⟨by decide +kernel, rfl⟩
theorem d4_2 : DAt B4 2 (.iconst 0) 1 3 := ⟨by decide +kernel, rfl⟩
theorem d4_3 : DAt B4 3 (.istore_n 2) 1 4 := ⟨by decide +kernel, rfl⟩
theorem d4_4 : DAt B4 4 (.iload_n 2) 1 5 := ⟨by decide +kernel, rfl⟩
theorem d4_5 : DAt B4 5 (.aload_n 0) 1 6 := ⟨by decide +kernel, rfl⟩
theorem d4_6 : DAt B4 6 (.getfield 75) 3 9 := ⟨by decide +kernel, rfl⟩
theorem d4_9 : DAt B4 9 (.if_icmp .ge 28) 3 12 := ⟨by decide +kernel, rfl⟩
theorem d4_12 : DAt B4 12 (.iload_n 2) 1 13 := ⟨by decide +kernel, rfl⟩
theorem d4_13 : DAt B4 13 (.bipush 8) 2 15 := ⟨by decide +kernel, rfl⟩
theorem d4_15 : DAt B4 15 (.if_icmp .ge 22) 3 18 := ⟨by decide +kernel, rfl⟩
theorem d4_18 : DAt B4 18 (.aload_n 0) 1 19 := ⟨by decide +kernel, rfl⟩
theorem d4_19 : DAt B4 19 (.getfield 13) 3 22 := ⟨by decide +kernel, rfl⟩
theorem d4_22 : DAt B4 22 (.iload_n 2) 1 23 := ⟨by decide +kernel, rfl⟩
theorem d4_23 : DAt B4 23 (.baload) 1 24 := ⟨by decide +kernel, rfl⟩
theorem d4_24 : DAt B4 24 (.ifCond .eq 7) 3 27 := ⟨by decide +kernel, rfl⟩
theorem d4_27 : DAt B4 27 (.iload_n 1) 1 28 := ⟨by decide +kernel, rfl⟩
theorem d4_28 : DAt B4 28 (.iconst 1) 1 29 := ⟨by decide +kernel, rfl⟩
theorem d4_29 : DAt B4 29 (.ixor) 1 30 := ⟨by decide +kernel, rfl⟩
theorem d4_30 : DAt B4 30 (.istore_n 1) 1 31 := ⟨by decide +kernel, rfl⟩
theorem d4_31 : DAt B4 31 (.iinc 2 1) 3 34 := ⟨by decide +kernel, rfl⟩
theorem d4_34 : DAt B4 34 (.goto (-30)) 3 37 := ⟨by decide +kernel, rfl⟩
theorem d4_37 : DAt B4 37 (.iload_n 1) 1 38 := ⟨by decide +kernel, rfl⟩
theorem d4_38 : DAt B4 38 (.ireturn) 1 39 := ⟨by decide +kernel, rfl⟩
def B5 : Bdy := ((⟨"XorGaussSat", "pendingXorMask", "()I"⟩ : MethodName), prog_1_method_19_code, 3, (some .int), ({ frames := 0, cells := 0, slots := 0, locals := 0 } : Room))
theorem d5_0 : DAt B5 0 (.iconst 0) 1 1 := ⟨by decide +kernel, rfl⟩
theorem d5_1 : DAt B5 1 (.istore_n 1) 1 2 := ⟨by decide +kernel, rfl⟩
theorem d5_2 : DAt B5 2 (.iconst 0) 1 3 := ⟨by decide +kernel, rfl⟩
theorem d5_3 : DAt B5 3 (.istore_n 2) 1 4 := ⟨by decide +kernel, rfl⟩
theorem d5_4 : DAt B5 4 (.iload_n 2) 1 5 := ⟨by decide +kernel, rfl⟩
theorem d5_5 : DAt B5 5 (.aload_n 0) 1 6 := ⟨by decide +kernel, rfl⟩
theorem d5_6 : DAt B5 6 (.getfield 75) 3 9 := ⟨by decide +kernel, rfl⟩
theorem d5_9 : DAt B5 9 (.if_icmp .ge 26) 3 12 := ⟨by decide +kernel, rfl⟩
theorem d5_12 : DAt B5 12 (.iload_n 2) 1 13 := ⟨by decide +kernel, rfl⟩
theorem d5_13 : DAt B5 13 (.bipush 8) 2 15 := ⟨by decide +kernel, rfl⟩
theorem d5_15 : DAt B5 15 (.if_icmp .ge 20) 3 18 := ⟨by decide +kernel, rfl⟩
theorem d5_18 : DAt B5 18 (.iload_n 1) 1 19 := ⟨by decide +kernel, rfl⟩
theorem d5_19 : DAt B5 19 (.iconst 1) 1 20 := ⟨by decide +kernel, rfl⟩
theorem d5_20 : DAt B5 20 (.aload_n 0) 1 21 := ⟨by decide +kernel, rfl⟩
theorem d5_21 : DAt B5 21 (.getfield 7) 3 24 := ⟨by decide +kernel, rfl⟩
theorem d5_24 : DAt B5 24 (.iload_n 2) 1 25 := ⟨by decide +kernel, rfl⟩
theorem d5_25 : DAt B5 25 (.iaload) 1 26 := ⟨by decide +kernel, rfl⟩
theorem d5_26 : DAt B5 26 (.ishl) 1 27 := ⟨by decide +kernel, rfl⟩
theorem d5_27 : DAt B5 27 (.ixor) 1 28 := ⟨by decide +kernel, rfl⟩
theorem d5_28 : DAt B5 28 (.istore_n 1) 1 29 := ⟨by decide +kernel, rfl⟩
theorem d5_29 : DAt B5 29 (.iinc 2 1) 3 32 := ⟨by decide +kernel, rfl⟩
theorem d5_32 : DAt B5 32 (.goto (-28)) 3 35 := ⟨by decide +kernel, rfl⟩
theorem d5_35 : DAt B5 35 (.iload_n 1) 1 36 := ⟨by decide +kernel, rfl⟩
theorem d5_36 : DAt B5 36 (.aload_n 0) 1 37 := ⟨by decide +kernel, rfl⟩
theorem d5_37 : DAt B5 37 (.getfield 66) 3 40 := ⟨by decide +kernel, rfl⟩
theorem d5_40 : DAt B5 40 (.iand) 1 41 := ⟨by decide +kernel, rfl⟩
theorem d5_41 : DAt B5 41 (.ireturn) 1 42 := ⟨by decide +kernel, rfl⟩
def B6 : Bdy := ((⟨"XorGaussSat", "pushOrder", "(I)V"⟩ : MethodName), prog_1_method_21_code, 2, none, ({ frames := 0, cells := 0, slots := 0, locals := 0 } : Room))
theorem d6_0 : DAt B6 0 (.aload_n 0) 1 1 := ⟨by decide +kernel, rfl⟩
theorem d6_1 : DAt B6 1 (.getfield 84) 3 4 := ⟨by decide +kernel, rfl⟩
theorem d6_4 : DAt B6 4 (.ifCond .lt 12) 3 7 := ⟨by decide +kernel, rfl⟩
theorem d6_7 : DAt B6 7 (.aload_n 0) 1 8 := ⟨by decide +kernel, rfl⟩
theorem d6_8 : DAt B6 8 (.getfield 84) 3 11 := ⟨by decide +kernel, rfl⟩
theorem d6_11 : DAt B6 11 (.bipush 40) 2 13 := ⟨by decide +kernel, rfl⟩
theorem d6_13 : DAt B6 13 (.if_icmp .lt 4) 3 16 := ⟨by decide +kernel, rfl⟩
theorem d6_16 : DAt B6 16 (.return_) 1 17 := ⟨by decide +kernel, rfl⟩
theorem d6_17 : DAt B6 17 (.aload_n 0) 1 18 := ⟨by decide +kernel, rfl⟩
theorem d6_18 : DAt B6 18 (.getfield 29) 3 21 := ⟨by decide +kernel, rfl⟩
theorem d6_21 : DAt B6 21 (.aload_n 0) 1 22 := ⟨by decide +kernel, rfl⟩
theorem d6_22 : DAt B6 22 (.getfield 84) 3 25 := ⟨by decide +kernel, rfl⟩
theorem d6_25 : DAt B6 25 (.iload_n 1) 1 26 := ⟨by decide +kernel, rfl⟩
theorem d6_26 : DAt B6 26 (.iastore) 1 27 := ⟨by decide +kernel, rfl⟩
theorem d6_27 : DAt B6 27 (.aload_n 0) 1 28 := ⟨by decide +kernel, rfl⟩
theorem d6_28 : DAt B6 28 (.dup) 1 29 := ⟨by decide +kernel, rfl⟩
theorem d6_29 : DAt B6 29 (.getfield 84) 3 32 := ⟨by decide +kernel, rfl⟩
theorem d6_32 : DAt B6 32 (.iconst 1) 1 33 := ⟨by decide +kernel, rfl⟩
theorem d6_33 : DAt B6 33 (.iadd) 1 34 := ⟨by decide +kernel, rfl⟩
theorem d6_34 : DAt B6 34 (.putfield 84) 3 37 := ⟨by decide +kernel, rfl⟩
theorem d6_37 : DAt B6 37 (.return_) 1 38 := ⟨by decide +kernel, rfl⟩
def B3 : Bdy := ((⟨"XorGaussSat", "commitXor", "(Z)I"⟩ : MethodName), prog_1_method_7_code, 4, (some .int), ({ frames := 1, cells := 0, slots := 0, locals := 16 } : Room))
theorem d3_0 : DAt B3 0 (.aload_n 0) 1 1 := ⟨by decide +kernel, rfl⟩
theorem d3_1 : DAt B3 1 (.getfield 81) 3 4 := ⟨by decide +kernel, rfl⟩
theorem d3_4 : DAt B3 4 (.bipush 16) 2 6 := ⟨by decide +kernel, rfl⟩
theorem d3_6 : DAt B3 6 (.if_icmp .lt 6) 3 9 := ⟨by decide +kernel, rfl⟩
theorem d3_9 : DAt B3 9 (.bipush (-2)) 2 11 := ⟨by decide +kernel, rfl⟩
theorem d3_11 : DAt B3 11 (.ireturn) 1 12 := ⟨by decide +kernel, rfl⟩
theorem d3_12 : DAt B3 12 (.aload_n 0) 1 13 := ⟨by decide +kernel, rfl⟩
theorem d3_13 : DAt B3 13 (.getfield 84) 3 16 := ⟨by decide +kernel, rfl⟩
theorem d3_16 : DAt B3 16 (.bipush 40) 2 18 := ⟨by decide +kernel, rfl⟩
theorem d3_18 : DAt B3 18 (.if_icmp .lt 6) 3 21 := ⟨by decide +kernel, rfl⟩
theorem d3_21 : DAt B3 21 (.bipush (-2)) 2 23 := ⟨by decide +kernel, rfl⟩
theorem d3_23 : DAt B3 23 (.ireturn) 1 24 := ⟨by decide +kernel, rfl⟩
theorem d3_24 : DAt B3 24 (.aload_n 0) 1 25 := ⟨by decide +kernel, rfl⟩
theorem d3_25 : DAt B3 25 (.getfield 81) 3 28 := ⟨by decide +kernel, rfl⟩
theorem d3_28 : DAt B3 28 (.istore_n 2) 1 29 := ⟨by decide +kernel, rfl⟩
theorem d3_29 : DAt B3 29 (.aload_n 0) 1 30 := ⟨by decide +kernel, rfl⟩
theorem d3_30 : DAt B3 30 (.invokevirtual 105) 3 33 := ⟨by decide +kernel, rfl⟩
theorem d3_33 : DAt B3 33 (.istore_n 3) 1 34 := ⟨by decide +kernel, rfl⟩
theorem d3_34 : DAt B3 34 (.iload_n 1) 1 35 := ⟨by decide +kernel, rfl⟩
theorem d3_35 : DAt B3 35 (.ifCond .eq 7) 3 38 := ⟨by decide +kernel, rfl⟩
theorem d3_38 : DAt B3 38 (.iload_n 3) 1 39 := ⟨by decide +kernel, rfl⟩
theorem d3_39 : DAt B3 39 (.iconst 1) 1 40 := ⟨by decide +kernel, rfl⟩
theorem d3_40 : DAt B3 40 (.ixor) 1 41 := ⟨by decide +kernel, rfl⟩
theorem d3_41 : DAt B3 41 (.istore_n 3) 1 42 := ⟨by decide +kernel, rfl⟩
theorem d3_42 : DAt B3 42 (.aload_n 0) 1 43 := ⟨by decide +kernel, rfl⟩
theorem d3_43 : DAt B3 43 (.getfield 23) 3 46 := ⟨by decide +kernel, rfl⟩
theorem d3_46 : DAt B3 46 (.iload_n 2) 1 47 := ⟨by decide +kernel, rfl⟩
theorem d3_47 : DAt B3 47 (.aload_n 0) 1 48 := ⟨by decide +kernel, rfl⟩
theorem d3_48 : DAt B3 48 (.invokevirtual 109) 3 51 := ⟨by decide +kernel, rfl⟩
theorem d3_51 : DAt B3 51 (.iastore) 1 52 := ⟨by decide +kernel, rfl⟩
theorem d3_52 : DAt B3 52 (.aload_n 0) 1 53 := ⟨by decide +kernel, rfl⟩
theorem d3_53 : DAt B3 53 (.getfield 26) 3 56 := ⟨by decide +kernel, rfl⟩
theorem d3_56 : DAt B3 56 (.iload_n 2) 1 57 := ⟨by decide +kernel, rfl⟩
theorem d3_57 : DAt B3 57 (.iload_n 3) 1 58 := ⟨by decide +kernel, rfl⟩
theorem d3_58 : DAt B3 58 (.iastore) 1 59 := ⟨by decide +kernel, rfl⟩
theorem d3_59 : DAt B3 59 (.aload_n 0) 1 60 := ⟨by decide +kernel, rfl⟩
theorem d3_60 : DAt B3 60 (.dup) 1 61 := ⟨by decide +kernel, rfl⟩
theorem d3_61 : DAt B3 61 (.getfield 81) 3 64 := ⟨by decide +kernel, rfl⟩
theorem d3_64 : DAt B3 64 (.iconst 1) 1 65 := ⟨by decide +kernel, rfl⟩
theorem d3_65 : DAt B3 65 (.iadd) 1 66 := ⟨by decide +kernel, rfl⟩
theorem d3_66 : DAt B3 66 (.putfield 81) 3 69 := ⟨by decide +kernel, rfl⟩
theorem d3_69 : DAt B3 69 (.aload_n 0) 1 70 := ⟨by decide +kernel, rfl⟩
theorem d3_70 : DAt B3 70 (.iconst 2) 1 71 := ⟨by decide +kernel, rfl⟩
theorem d3_71 : DAt B3 71 (.invokevirtual 101) 3 74 := ⟨by decide +kernel, rfl⟩
theorem d3_74 : DAt B3 74 (.aload_n 0) 1 75 := ⟨by decide +kernel, rfl⟩
theorem d3_75 : DAt B3 75 (.iconst 0) 1 76 := ⟨by decide +kernel, rfl⟩
theorem d3_76 : DAt B3 76 (.putfield 75) 3 79 := ⟨by decide +kernel, rfl⟩
theorem d3_79 : DAt B3 79 (.aload_n 0) 1 80 := ⟨by decide +kernel, rfl⟩
theorem d3_80 : DAt B3 80 (.iconst 2) 1 81 := ⟨by decide +kernel, rfl⟩
theorem d3_81 : DAt B3 81 (.putfield 69) 3 84 := ⟨by decide +kernel, rfl⟩
theorem d3_84 : DAt B3 84 (.aload_n 0) 1 85 := ⟨by decide +kernel, rfl⟩
theorem d3_85 : DAt B3 85 (.iconst 0) 1 86 := ⟨by decide +kernel, rfl⟩
theorem d3_86 : DAt B3 86 (.putfield 87) 3 89 := ⟨by decide +kernel, rfl⟩
theorem d3_89 : DAt B3 89 (.iload_n 2) 1 90 := ⟨by decide +kernel, rfl⟩
theorem d3_90 : DAt B3 90 (.ireturn) 1 91 := ⟨by decide +kernel, rfl⟩
def B8 : Bdy := ((⟨"XorGaussSat", "pendingMask", "(Z)I"⟩ : MethodName), prog_1_method_18_code, 4, (some .int), ({ frames := 0, cells := 0, slots := 0, locals := 0 } : Room))
theorem d8_0 : DAt B8 0 (.iconst 0) 1 1 := ⟨by decide +kernel, rfl⟩
theorem d8_1 : DAt B8 1 (.istore_n 2) 1 2 := ⟨by decide +kernel, rfl⟩
theorem d8_2 : DAt B8 2 (.iconst 0) 1 3 := ⟨by decide +kernel, rfl⟩
theorem d8_3 : DAt B8 3 (.istore_n 3) 1 4 := ⟨by decide +kernel, rfl⟩
theorem d8_4 : DAt B8 4 (.iload_n 3) 1 5 := ⟨by decide +kernel, rfl⟩
theorem d8_5 : DAt B8 5 (.aload_n 0) 1 6 := ⟨by decide +kernel, rfl⟩
theorem d8_6 : DAt B8 6 (.getfield 75) 3 9 := ⟨by decide +kernel, rfl⟩
theorem d8_9 : DAt B8 9 (.if_icmp .ge 36) 3 12 := ⟨by decide +kernel, rfl⟩
theorem d8_12 : DAt B8 12 (.iload_n 3) 1 13 := ⟨by decide +kernel, rfl⟩
theorem d8_13 : DAt B8 13 (.bipush 8) 2 15 := ⟨by decide +kernel, rfl⟩
theorem d8_15 : DAt B8 15 (.if_icmp .ge 30) 3 18 := ⟨by decide +kernel, rfl⟩
theorem d8_18 : DAt B8 18 (.aload_n 0) 1 19 := ⟨by decide +kernel, rfl⟩
theorem d8_19 : DAt B8 19 (.getfield 13) 3 22 := ⟨by decide +kernel, rfl⟩
theorem d8_22 : DAt B8 22 (.iload_n 3) 1 23 := ⟨by decide +kernel, rfl⟩
theorem d8_23 : DAt B8 23 (.baload) 1 24 := ⟨by decide +kernel, rfl⟩
theorem d8_24 : DAt B8 24 (.iload_n 1) 1 25 := ⟨by decide +kernel, rfl⟩
theorem d8_25 : DAt B8 25 (.if_icmp .ne 14) 3 28 := ⟨by decide +kernel, rfl⟩
theorem d8_28 : DAt B8 28 (.iload_n 2) 1 29 := ⟨by decide +kernel, rfl⟩
theorem d8_29 : DAt B8 29 (.iconst 1) 1 30 := ⟨by decide +kernel, rfl⟩
theorem d8_30 : DAt B8 30 (.aload_n 0) 1 31 := ⟨by decide +kernel, rfl⟩
theorem d8_31 : DAt B8 31 (.getfield 7) 3 34 := ⟨by decide +kernel, rfl⟩
theorem d8_34 : DAt B8 34 (.iload_n 3) 1 35 := ⟨by decide +kernel, rfl⟩
theorem d8_35 : DAt B8 35 (.iaload) 1 36 := ⟨by decide +kernel, rfl⟩
theorem d8_36 : DAt B8 36 (.ishl) 1 37 := ⟨by decide +kernel, rfl⟩
theorem d8_37 : DAt B8 37 (.ior) 1 38 := ⟨by decide +kernel, rfl⟩
theorem d8_38 : DAt B8 38 (.istore_n 2) 1 39 := ⟨by decide +kernel, rfl⟩
theorem d8_39 : DAt B8 39 (.iinc 3 1) 3 42 := ⟨by decide +kernel, rfl⟩
theorem d8_42 : DAt B8 42 (.goto (-38)) 3 45 := ⟨by decide +kernel, rfl⟩
theorem d8_45 : DAt B8 45 (.iload_n 2) 1 46 := ⟨by decide +kernel, rfl⟩
theorem d8_46 : DAt B8 46 (.aload_n 0) 1 47 := ⟨by decide +kernel, rfl⟩
theorem d8_47 : DAt B8 47 (.getfield 66) 3 50 := ⟨by decide +kernel, rfl⟩
theorem d8_50 : DAt B8 50 (.iand) 1 51 := ⟨by decide +kernel, rfl⟩
theorem d8_51 : DAt B8 51 (.ireturn) 1 52 := ⟨by decide +kernel, rfl⟩
def B7 : Bdy := ((⟨"XorGaussSat", "commitClause", "()I"⟩ : MethodName), prog_1_method_6_code, 2, (some .int), ({ frames := 1, cells := 0, slots := 0, locals := 17 } : Room))
theorem d7_0 : DAt B7 0 (.aload_n 0) 1 1 := ⟨by decide +kernel, rfl⟩
theorem d7_1 : DAt B7 1 (.getfield 78) 3 4 := ⟨by decide +kernel, rfl⟩
theorem d7_4 : DAt B7 4 (.bipush 24) 2 6 := ⟨by decide +kernel, rfl⟩
theorem d7_6 : DAt B7 6 (.if_icmp .lt 6) 3 9 := ⟨by decide +kernel, rfl⟩
theorem d7_9 : DAt B7 9 (.bipush (-2)) 2 11 := ⟨by decide +kernel, rfl⟩
theorem d7_11 : DAt B7 11 (.ireturn) 1 12 := ⟨by decide +kernel, rfl⟩
theorem d7_12 : DAt B7 12 (.aload_n 0) 1 13 := ⟨by decide +kernel, rfl⟩
theorem d7_13 : DAt B7 13 (.getfield 84) 3 16 := ⟨by decide +kernel, rfl⟩
theorem d7_16 : DAt B7 16 (.bipush 40) 2 18 := ⟨by decide +kernel, rfl⟩
theorem d7_18 : DAt B7 18 (.if_icmp .lt 6) 3 21 := ⟨by decide +kernel, rfl⟩
theorem d7_21 : DAt B7 21 (.bipush (-2)) 2 23 := ⟨by decide +kernel, rfl⟩
theorem d7_23 : DAt B7 23 (.ireturn) 1 24 := ⟨by decide +kernel, rfl⟩
theorem d7_24 : DAt B7 24 (.aload_n 0) 1 25 := ⟨by decide +kernel, rfl⟩
theorem d7_25 : DAt B7 25 (.getfield 78) 3 28 := ⟨by decide +kernel, rfl⟩
theorem d7_28 : DAt B7 28 (.istore_n 1) 1 29 := ⟨by decide +kernel, rfl⟩
theorem d7_29 : DAt B7 29 (.aload_n 0) 1 30 := ⟨by decide +kernel, rfl⟩
theorem d7_30 : DAt B7 30 (.getfield 17) 3 33 := ⟨by decide +kernel, rfl⟩
theorem d7_33 : DAt B7 33 (.iload_n 1) 1 34 := ⟨by decide +kernel, rfl⟩
theorem d7_34 : DAt B7 34 (.aload_n 0) 1 35 := ⟨by decide +kernel, rfl⟩
theorem d7_35 : DAt B7 35 (.iconst 0) 1 36 := ⟨by decide +kernel, rfl⟩
theorem d7_36 : DAt B7 36 (.invokevirtual 97) 3 39 := ⟨by decide +kernel, rfl⟩
theorem d7_39 : DAt B7 39 (.iastore) 1 40 := ⟨by decide +kernel, rfl⟩
theorem d7_40 : DAt B7 40 (.aload_n 0) 1 41 := ⟨by decide +kernel, rfl⟩
theorem d7_41 : DAt B7 41 (.getfield 20) 3 44 := ⟨by decide +kernel, rfl⟩
theorem d7_44 : DAt B7 44 (.iload_n 1) 1 45 := ⟨by decide +kernel, rfl⟩
theorem d7_45 : DAt B7 45 (.aload_n 0) 1 46 := ⟨by decide +kernel, rfl⟩
theorem d7_46 : DAt B7 46 (.iconst 1) 1 47 := ⟨by decide +kernel, rfl⟩
theorem d7_47 : DAt B7 47 (.invokevirtual 97) 3 50 := ⟨by decide +kernel, rfl⟩
theorem d7_50 : DAt B7 50 (.iastore) 1 51 := ⟨by decide +kernel, rfl⟩
theorem d7_51 : DAt B7 51 (.aload_n 0) 1 52 := ⟨by decide +kernel, rfl⟩
theorem d7_52 : DAt B7 52 (.dup) 1 53 := ⟨by decide +kernel, rfl⟩
theorem d7_53 : DAt B7 53 (.getfield 78) 3 56 := ⟨by decide +kernel, rfl⟩
theorem d7_56 : DAt B7 56 (.iconst 1) 1 57 := ⟨by decide +kernel, rfl⟩
theorem d7_57 : DAt B7 57 (.iadd) 1 58 := ⟨by decide +kernel, rfl⟩
theorem d7_58 : DAt B7 58 (.putfield 78) 3 61 := ⟨by decide +kernel, rfl⟩
theorem d7_61 : DAt B7 61 (.aload_n 0) 1 62 := ⟨by decide +kernel, rfl⟩
theorem d7_62 : DAt B7 62 (.iconst 1) 1 63 := ⟨by decide +kernel, rfl⟩
theorem d7_63 : DAt B7 63 (.invokevirtual 101) 3 66 := ⟨by decide +kernel, rfl⟩
theorem d7_66 : DAt B7 66 (.aload_n 0) 1 67 := ⟨by decide +kernel, rfl⟩
theorem d7_67 : DAt B7 67 (.iconst 0) 1 68 := ⟨by decide +kernel, rfl⟩
theorem d7_68 : DAt B7 68 (.putfield 75) 3 71 := ⟨by decide +kernel, rfl⟩
theorem d7_71 : DAt B7 71 (.aload_n 0) 1 72 := ⟨by decide +kernel, rfl⟩
theorem d7_72 : DAt B7 72 (.iconst 2) 1 73 := ⟨by decide +kernel, rfl⟩
theorem d7_73 : DAt B7 73 (.putfield 69) 3 76 := ⟨by decide +kernel, rfl⟩
theorem d7_76 : DAt B7 76 (.iload_n 1) 1 77 := ⟨by decide +kernel, rfl⟩
theorem d7_77 : DAt B7 77 (.ireturn) 1 78 := ⟨by decide +kernel, rfl⟩
def B13 : Bdy := ((⟨"XorGaussSat", "findPivot", "(I)I"⟩ : MethodName), prog_1_method_30_code, 4, (some .int), ({ frames := 0, cells := 0, slots := 0, locals := 0 } : Room))
theorem d13_0 : DAt B13 0 (.iconst 1) 1 1 := ⟨by decide +kernel, rfl⟩
theorem d13_1 : DAt B13 1 (.iload_n 1) 1 2 := ⟨by decide +kernel, rfl⟩
theorem d13_2 : DAt B13 2 (.ishl) 1 3 := ⟨by decide +kernel, rfl⟩
theorem d13_3 : DAt B13 3 (.istore_n 2) 1 4 := ⟨by decide +kernel, rfl⟩
theorem d13_4 : DAt B13 4 (.aload_n 0) 1 5 := ⟨by decide +kernel, rfl⟩
theorem d13_5 : DAt B13 5 (.getfield 141) 3 8 := ⟨by decide +kernel, rfl⟩
theorem d13_8 : DAt B13 8 (.istore_n 3) 1 9 := ⟨by decide +kernel, rfl⟩
theorem d13_9 : DAt B13 9 (.iload_n 3) 1 10 := ⟨by decide +kernel, rfl⟩
theorem d13_10 : DAt B13 10 (.aload_n 0) 1 11 := ⟨by decide +kernel, rfl⟩
theorem d13_11 : DAt B13 11 (.getfield 154) 3 14 := ⟨by decide +kernel, rfl⟩
theorem d13_14 : DAt B13 14 (.if_icmp .ge 32) 3 17 := ⟨by decide +kernel, rfl⟩
theorem d13_17 : DAt B13 17 (.iload_n 3) 1 18 := ⟨by decide +kernel, rfl⟩
theorem d13_18 : DAt B13 18 (.bipush 16) 2 20 := ⟨by decide +kernel, rfl⟩
theorem d13_20 : DAt B13 20 (.if_icmp .ge 26) 3 23 := ⟨by decide +kernel, rfl⟩
theorem d13_23 : DAt B13 23 (.iload_n 3) 1 24 := ⟨by decide +kernel, rfl⟩
theorem d13_24 : DAt B13 24 (.ifCond .lt 16) 3 27 := ⟨by decide +kernel, rfl⟩
theorem d13_27 : DAt B13 27 (.aload_n 0) 1 28 := ⟨by decide +kernel, rfl⟩
theorem d13_28 : DAt B13 28 (.getfield 41) 3 31 := ⟨by decide +kernel, rfl⟩
theorem d13_31 : DAt B13 31 (.iload_n 3) 1 32 := ⟨by decide +kernel, rfl⟩
theorem d13_32 : DAt B13 32 (.iaload) 1 33 := ⟨by decide +kernel, rfl⟩
theorem d13_33 : DAt B13 33 (.iload_n 2) 1 34 := ⟨by decide +kernel, rfl⟩
theorem d13_34 : DAt B13 34 (.iand) 1 35 := ⟨by decide +kernel, rfl⟩
theorem d13_35 : DAt B13 35 (.ifCond .eq 5) 3 38 := ⟨by decide +kernel, rfl⟩
theorem d13_38 : DAt B13 38 (.iload_n 3) 1 39 := ⟨by decide +kernel, rfl⟩
theorem d13_39 : DAt B13 39 (.ireturn) 1 40 := ⟨by decide +kernel, rfl⟩
theorem d13_40 : DAt B13 40 (.iinc 3 1) 3 43 := ⟨by decide +kernel, rfl⟩
theorem d13_43 : DAt B13 43 (.goto (-34)) 3 46 := ⟨by decide +kernel, rfl⟩
theorem d13_46 : DAt B13 46 (.iconst (-1)) 1 47 := ⟨by decide +kernel, rfl⟩
theorem d13_47 : DAt B13 47 (.ireturn) 1 48 := ⟨by decide +kernel, rfl⟩
def B14 : Bdy := ((⟨"XorGaussSat", "swapRows", "(II)V"⟩ : MethodName), prog_1_method_31_code, 5, none, ({ frames := 0, cells := 0, slots := 0, locals := 0 } : Room))
theorem d14_0 : DAt B14 0 (.iload_n 1) 1 1 := ⟨by decide +kernel, rfl⟩
theorem d14_1 : DAt B14 1 (.iload_n 2) 1 2 := ⟨by decide +kernel, rfl⟩
theorem d14_2 : DAt B14 2 (.if_icmp .eq 23) 3 5 := ⟨by decide +kernel, rfl⟩
theorem d14_5 : DAt B14 5 (.iload_n 1) 1 6 := ⟨by decide +kernel, rfl⟩
theorem d14_6 : DAt B14 6 (.ifCond .lt 19) 3 9 := ⟨by decide +kernel, rfl⟩
theorem d14_9 : DAt B14 9 (.iload_n 2) 1 10 := ⟨by decide +kernel, rfl⟩
theorem d14_10 : DAt B14 10 (.ifCond .lt 15) 3 13 := ⟨by decide +kernel, rfl⟩
theorem d14_13 : DAt B14 13 (.iload_n 1) 1 14 := ⟨by decide +kernel, rfl⟩
theorem d14_14 : DAt B14 14 (.bipush 16) 2 16 := ⟨by decide +kernel, rfl⟩
theorem d14_16 : DAt B14 16 (.if_icmp .ge 9) 3 19 := ⟨by decide +kernel, rfl⟩
theorem d14_19 : DAt B14 19 (.iload_n 2) 1 20 := ⟨by decide +kernel, rfl⟩
theorem d14_20 : DAt B14 20 (.bipush 16) 2 22 := ⟨by decide +kernel, rfl⟩
theorem d14_22 : DAt B14 22 (.if_icmp .lt 4) 3 25 := ⟨by decide +kernel, rfl⟩
theorem d14_25 : DAt B14 25 (.return_) 1 26 := ⟨by decide +kernel, rfl⟩
theorem d14_26 : DAt B14 26 (.aload_n 0) 1 27 := ⟨by decide +kernel, rfl⟩
theorem d14_27 : DAt B14 27 (.getfield 41) 3 30 := ⟨by decide +kernel, rfl⟩
theorem d14_30 : DAt B14 30 (.iload_n 1) 1 31 := ⟨by decide +kernel, rfl⟩
theorem d14_31 : DAt B14 31 (.iaload) 1 32 := ⟨by decide +kernel, rfl⟩
theorem d14_32 : DAt B14 32 (.istore_n 3) 1 33 := ⟨by decide +kernel, rfl⟩
theorem d14_33 : DAt B14 33 (.aload_n 0) 1 34 := ⟨by decide +kernel, rfl⟩
theorem d14_34 : DAt B14 34 (.getfield 41) 3 37 := ⟨by decide +kernel, rfl⟩
theorem d14_37 : DAt B14 37 (.iload_n 1) 1 38 := ⟨by decide +kernel, rfl⟩
theorem d14_38 : DAt B14 38 (.aload_n 0) 1 39 := ⟨by decide +kernel, rfl⟩
theorem d14_39 : DAt B14 39 (.getfield 41) 3 42 := ⟨by decide +kernel, rfl⟩
theorem d14_42 : DAt B14 42 (.iload_n 2) 1 43 := ⟨by decide +kernel, rfl⟩
theorem d14_43 : DAt B14 43 (.iaload) 1 44 := ⟨by decide +kernel, rfl⟩
theorem d14_44 : DAt B14 44 (.iastore) 1 45 := ⟨by decide +kernel, rfl⟩
theorem d14_45 : DAt B14 45 (.aload_n 0) 1 46 := ⟨by decide +kernel, rfl⟩
theorem d14_46 : DAt B14 46 (.getfield 41) 3 49 := ⟨by decide +kernel, rfl⟩
theorem d14_49 : DAt B14 49 (.iload_n 2) 1 50 := ⟨by decide +kernel, rfl⟩
theorem d14_50 : DAt B14 50 (.iload_n 3) 1 51 := ⟨by decide +kernel, rfl⟩
theorem d14_51 : DAt B14 51 (.iastore) 1 52 := ⟨by decide +kernel, rfl⟩
theorem d14_52 : DAt B14 52 (.aload_n 0) 1 53 := ⟨by decide +kernel, rfl⟩
theorem d14_53 : DAt B14 53 (.getfield 44) 3 56 := ⟨by decide +kernel, rfl⟩
theorem d14_56 : DAt B14 56 (.iload_n 1) 1 57 := ⟨by decide +kernel, rfl⟩
theorem d14_57 : DAt B14 57 (.iaload) 1 58 := ⟨by decide +kernel, rfl⟩
theorem d14_58 : DAt B14 58 (.istore 4) 2 60 := ⟨by decide +kernel, rfl⟩
theorem d14_60 : DAt B14 60 (.aload_n 0) 1 61 := ⟨by decide +kernel, rfl⟩
theorem d14_61 : DAt B14 61 (.getfield 44) 3 64 := ⟨by decide +kernel, rfl⟩
theorem d14_64 : DAt B14 64 (.iload_n 1) 1 65 := ⟨by decide +kernel, rfl⟩
theorem d14_65 : DAt B14 65 (.aload_n 0) 1 66 := ⟨by decide +kernel, rfl⟩
theorem d14_66 : DAt B14 66 (.getfield 44) 3 69 := ⟨by decide +kernel, rfl⟩
theorem d14_69 : DAt B14 69 (.iload_n 2) 1 70 := ⟨by decide +kernel, rfl⟩
theorem d14_70 : DAt B14 70 (.iaload) 1 71 := ⟨by decide +kernel, rfl⟩
theorem d14_71 : DAt B14 71 (.iastore) 1 72 := ⟨by decide +kernel, rfl⟩
theorem d14_72 : DAt B14 72 (.aload_n 0) 1 73 := ⟨by decide +kernel, rfl⟩
theorem d14_73 : DAt B14 73 (.getfield 44) 3 76 := ⟨by decide +kernel, rfl⟩
theorem d14_76 : DAt B14 76 (.iload_n 2) 1 77 := ⟨by decide +kernel, rfl⟩
theorem d14_77 : DAt B14 77 (.iload 4) 2 79 := ⟨by decide +kernel, rfl⟩
theorem d14_79 : DAt B14 79 (.iastore) 1 80 := ⟨by decide +kernel, rfl⟩
theorem d14_80 : DAt B14 80 (.return_) 1 81 := ⟨by decide +kernel, rfl⟩
def B15 : Bdy := ((⟨"XorGaussSat", "clearColumn", "(II)V"⟩ : MethodName), prog_1_method_32_code, 5, none, ({ frames := 0, cells := 0, slots := 0, locals := 0 } : Room))
theorem d15_0 : DAt B15 0 (.iload_n 2) 1 1 := ⟨by decide +kernel, rfl⟩
theorem d15_1 : DAt B15 1 (.ifCond .lt 9) 3 4 := ⟨by decide +kernel, rfl⟩
theorem d15_4 : DAt B15 4 (.iload_n 2) 1 5 := ⟨by decide +kernel, rfl⟩
theorem d15_5 : DAt B15 5 (.bipush 16) 2 7 := ⟨by decide +kernel, rfl⟩
theorem d15_7 : DAt B15 7 (.if_icmp .lt 4) 3 10 := ⟨by decide +kernel, rfl⟩
theorem d15_10 : DAt B15 10 (.return_) 1 11 := ⟨by decide +kernel, rfl⟩
theorem d15_11 : DAt B15 11 (.iconst 1) 1 12 := ⟨by decide +kernel, rfl⟩
theorem d15_12 : DAt B15 12 (.iload_n 1) 1 13 := ⟨by decide +kernel, rfl⟩
theorem d15_13 : DAt B15 13 (.ishl) 1 14 := ⟨by decide +kernel, rfl⟩
theorem d15_14 : DAt B15 14 (.istore_n 3) 1 15 := ⟨by decide +kernel, rfl⟩
theorem d15_15 : DAt B15 15 (.iconst 0) 1 16 := ⟨by decide +kernel, rfl⟩
theorem d15_16 : DAt B15 16 (.istore 4) 2 18 := ⟨by decide +kernel, rfl⟩
theorem d15_18 : DAt B15 18 (.iload 4) 2 20 := ⟨by decide +kernel, rfl⟩
theorem d15_20 : DAt B15 20 (.aload_n 0) 1 21 := ⟨by decide +kernel, rfl⟩
theorem d15_21 : DAt B15 21 (.getfield 154) 3 24 := ⟨by decide +kernel, rfl⟩
theorem d15_24 : DAt B15 24 (.if_icmp .ge 66) 3 27 := ⟨by decide +kernel, rfl⟩
theorem d15_27 : DAt B15 27 (.iload 4) 2 29 := ⟨by decide +kernel, rfl⟩
theorem d15_29 : DAt B15 29 (.bipush 16) 2 31 := ⟨by decide +kernel, rfl⟩
theorem d15_31 : DAt B15 31 (.if_icmp .ge 59) 3 34 := ⟨by decide +kernel, rfl⟩
theorem d15_34 : DAt B15 34 (.iload 4) 2 36 := ⟨by decide +kernel, rfl⟩
theorem d15_36 : DAt B15 36 (.iload_n 2) 1 37 := ⟨by decide +kernel, rfl⟩
theorem d15_37 : DAt B15 37 (.if_icmp .eq 47) 3 40 := ⟨by decide +kernel, rfl⟩
theorem d15_40 : DAt B15 40 (.aload_n 0) 1 41 := ⟨by decide +kernel, rfl⟩
theorem d15_41 : DAt B15 41 (.getfield 41) 3 44 := ⟨by decide +kernel, rfl⟩
theorem d15_44 : DAt B15 44 (.iload 4) 2 46 := ⟨by decide +kernel, rfl⟩
theorem d15_46 : DAt B15 46 (.iaload) 1 47 := ⟨by decide +kernel, rfl⟩
theorem d15_47 : DAt B15 47 (.iload_n 3) 1 48 := ⟨by decide +kernel, rfl⟩
theorem d15_48 : DAt B15 48 (.iand) 1 49 := ⟨by decide +kernel, rfl⟩
theorem d15_49 : DAt B15 49 (.ifCond .eq 35) 3 52 := ⟨by decide +kernel, rfl⟩
theorem d15_52 : DAt B15 52 (.aload_n 0) 1 53 := ⟨by decide +kernel, rfl⟩
theorem d15_53 : DAt B15 53 (.getfield 41) 3 56 := ⟨by decide +kernel, rfl⟩
theorem d15_56 : DAt B15 56 (.iload 4) 2 58 := ⟨by decide +kernel, rfl⟩
theorem d15_58 : DAt B15 58 (.dup2) 1 59 := ⟨by decide +kernel, rfl⟩
theorem d15_59 : DAt B15 59 (.iaload) 1 60 := ⟨by decide +kernel, rfl⟩
theorem d15_60 : DAt B15 60 (.aload_n 0) 1 61 := ⟨by decide +kernel, rfl⟩
theorem d15_61 : DAt B15 61 (.getfield 41) 3 64 := ⟨by decide +kernel, rfl⟩
theorem d15_64 : DAt B15 64 (.iload_n 2) 1 65 := ⟨by decide +kernel, rfl⟩
theorem d15_65 : DAt B15 65 (.iaload) 1 66 := ⟨by decide +kernel, rfl⟩
theorem d15_66 : DAt B15 66 (.ixor) 1 67 := ⟨by decide +kernel, rfl⟩
theorem d15_67 : DAt B15 67 (.iastore) 1 68 := ⟨by decide +kernel, rfl⟩
theorem d15_68 : DAt B15 68 (.aload_n 0) 1 69 := ⟨by decide +kernel, rfl⟩
theorem d15_69 : DAt B15 69 (.getfield 44) 3 72 := ⟨by decide +kernel, rfl⟩
theorem d15_72 : DAt B15 72 (.iload 4) 2 74 := ⟨by decide +kernel, rfl⟩
theorem d15_74 : DAt B15 74 (.dup2) 1 75 := ⟨by decide +kernel, rfl⟩
theorem d15_75 : DAt B15 75 (.iaload) 1 76 := ⟨by decide +kernel, rfl⟩
theorem d15_76 : DAt B15 76 (.aload_n 0) 1 77 := ⟨by decide +kernel, rfl⟩
theorem d15_77 : DAt B15 77 (.getfield 44) 3 80 := ⟨by decide +kernel, rfl⟩
theorem d15_80 : DAt B15 80 (.iload_n 2) 1 81 := ⟨by decide +kernel, rfl⟩
theorem d15_81 : DAt B15 81 (.iaload) 1 82 := ⟨by decide +kernel, rfl⟩
theorem d15_82 : DAt B15 82 (.ixor) 1 83 := ⟨by decide +kernel, rfl⟩
theorem d15_83 : DAt B15 83 (.iastore) 1 84 := ⟨by decide +kernel, rfl⟩
theorem d15_84 : DAt B15 84 (.iinc 4 1) 3 87 := ⟨by decide +kernel, rfl⟩
theorem d15_87 : DAt B15 87 (.goto (-69)) 3 90 := ⟨by decide +kernel, rfl⟩
theorem d15_90 : DAt B15 90 (.return_) 1 91 := ⟨by decide +kernel, rfl⟩
def B12 : Bdy := ((⟨"XorGaussSat", "eliminate", "()V"⟩ : MethodName), prog_1_method_29_code, 3, none, ({ frames := 1, cells := 0, slots := 0, locals := 16 } : Room))
theorem d12_0 : DAt B12 0 (.aload_n 0) 1 1 := ⟨by decide +kernel, rfl⟩
theorem d12_1 : DAt B12 1 (.iconst 0) 1 2 := ⟨by decide +kernel, rfl⟩
theorem d12_2 : DAt B12 2 (.putfield 141) 3 5 := ⟨by decide +kernel, rfl⟩
theorem d12_5 : DAt B12 5 (.iconst 0) 1 6 := ⟨by decide +kernel, rfl⟩
theorem d12_6 : DAt B12 6 (.istore_n 1) 1 7 := ⟨by decide +kernel, rfl⟩
theorem d12_7 : DAt B12 7 (.iload_n 1) 1 8 := ⟨by decide +kernel, rfl⟩
theorem d12_8 : DAt B12 8 (.aload_n 0) 1 9 := ⟨by decide +kernel, rfl⟩
theorem d12_9 : DAt B12 9 (.getfield 62) 3 12 := ⟨by decide +kernel, rfl⟩
theorem d12_12 : DAt B12 12 (.if_icmp .ge 72) 3 15 := ⟨by decide +kernel, rfl⟩
theorem d12_15 : DAt B12 15 (.iload_n 1) 1 16 := ⟨by decide +kernel, rfl⟩
theorem d12_16 : DAt B12 16 (.bipush 12) 2 18 := ⟨by decide +kernel, rfl⟩
theorem d12_18 : DAt B12 18 (.if_icmp .ge 66) 3 21 := ⟨by decide +kernel, rfl⟩
theorem d12_21 : DAt B12 21 (.aload_n 0) 1 22 := ⟨by decide +kernel, rfl⟩
theorem d12_22 : DAt B12 22 (.iload_n 1) 1 23 := ⟨by decide +kernel, rfl⟩
theorem d12_23 : DAt B12 23 (.invokevirtual 144) 3 26 := ⟨by decide +kernel, rfl⟩
theorem d12_26 : DAt B12 26 (.istore_n 2) 1 27 := ⟨by decide +kernel, rfl⟩
theorem d12_27 : DAt B12 27 (.iload_n 2) 1 28 := ⟨by decide +kernel, rfl⟩
theorem d12_28 : DAt B12 28 (.ifCond .lt 50) 3 31 := ⟨by decide +kernel, rfl⟩
theorem d12_31 : DAt B12 31 (.aload_n 0) 1 32 := ⟨by decide +kernel, rfl⟩
theorem d12_32 : DAt B12 32 (.getfield 141) 3 35 := ⟨by decide +kernel, rfl⟩
theorem d12_35 : DAt B12 35 (.bipush 16) 2 37 := ⟨by decide +kernel, rfl⟩
theorem d12_37 : DAt B12 37 (.if_icmp .ge 41) 3 40 := ⟨by decide +kernel, rfl⟩
theorem d12_40 : DAt B12 40 (.aload_n 0) 1 41 := ⟨by decide +kernel, rfl⟩
theorem d12_41 : DAt B12 41 (.iload_n 2) 1 42 := ⟨by decide +kernel, rfl⟩
theorem d12_42 : DAt B12 42 (.aload_n 0) 1 43 := ⟨by decide +kernel, rfl⟩
theorem d12_43 : DAt B12 43 (.getfield 141) 3 46 := ⟨by decide +kernel, rfl⟩
theorem d12_46 : DAt B12 46 (.invokevirtual 147) 3 49 := ⟨by decide +kernel, rfl⟩
theorem d12_49 : DAt B12 49 (.aload_n 0) 1 50 := ⟨by decide +kernel, rfl⟩
theorem d12_50 : DAt B12 50 (.iload_n 1) 1 51 := ⟨by decide +kernel, rfl⟩
theorem d12_51 : DAt B12 51 (.aload_n 0) 1 52 := ⟨by decide +kernel, rfl⟩
theorem d12_52 : DAt B12 52 (.getfield 141) 3 55 := ⟨by decide +kernel, rfl⟩
theorem d12_55 : DAt B12 55 (.invokevirtual 151) 3 58 := ⟨by decide +kernel, rfl⟩
theorem d12_58 : DAt B12 58 (.aload_n 0) 1 59 := ⟨by decide +kernel, rfl⟩
theorem d12_59 : DAt B12 59 (.getfield 47) 3 62 := ⟨by decide +kernel, rfl⟩
theorem d12_62 : DAt B12 62 (.aload_n 0) 1 63 := ⟨by decide +kernel, rfl⟩
theorem d12_63 : DAt B12 63 (.getfield 141) 3 66 := ⟨by decide +kernel, rfl⟩
theorem d12_66 : DAt B12 66 (.iload_n 1) 1 67 := ⟨by decide +kernel, rfl⟩
theorem d12_67 : DAt B12 67 (.iastore) 1 68 := ⟨by decide +kernel, rfl⟩
theorem d12_68 : DAt B12 68 (.aload_n 0) 1 69 := ⟨by decide +kernel, rfl⟩
theorem d12_69 : DAt B12 69 (.dup) 1 70 := ⟨by decide +kernel, rfl⟩
theorem d12_70 : DAt B12 70 (.getfield 141) 3 73 := ⟨by decide +kernel, rfl⟩
theorem d12_73 : DAt B12 73 (.iconst 1) 1 74 := ⟨by decide +kernel, rfl⟩
theorem d12_74 : DAt B12 74 (.iadd) 1 75 := ⟨by decide +kernel, rfl⟩
theorem d12_75 : DAt B12 75 (.putfield 141) 3 78 := ⟨by decide +kernel, rfl⟩
theorem d12_78 : DAt B12 78 (.iinc 1 1) 3 81 := ⟨by decide +kernel, rfl⟩
theorem d12_81 : DAt B12 81 (.goto (-74)) 3 84 := ⟨by decide +kernel, rfl⟩
theorem d12_84 : DAt B12 84 (.return_) 1 85 := ⟨by decide +kernel, rfl⟩
def B16 : Bdy := ((⟨"XorGaussSat", "scratchConsistent", "()Z"⟩ : MethodName), prog_1_method_33_code, 2, (some .boolean), ({ frames := 0, cells := 0, slots := 0, locals := 0 } : Room))
theorem d16_0 : DAt B16 0 (.iconst 0) 1 1 := ⟨by decide +kernel, rfl⟩
theorem d16_1 : DAt B16 1 (.istore_n 1) 1 2 := ⟨by decide +kernel, rfl⟩
theorem d16_2 : DAt B16 2 (.iload_n 1) 1 3 := ⟨by decide +kernel, rfl⟩
theorem d16_3 : DAt B16 3 (.aload_n 0) 1 4 := ⟨by decide +kernel, rfl⟩
theorem d16_4 : DAt B16 4 (.getfield 154) 3 7 := ⟨by decide +kernel, rfl⟩
theorem d16_7 : DAt B16 7 (.if_icmp .ge 35) 3 10 := ⟨by decide +kernel, rfl⟩
theorem d16_10 : DAt B16 10 (.iload_n 1) 1 11 := ⟨by decide +kernel, rfl⟩
theorem d16_11 : DAt B16 11 (.bipush 16) 2 13 := ⟨by decide +kernel, rfl⟩
theorem d16_13 : DAt B16 13 (.if_icmp .ge 29) 3 16 := ⟨by decide +kernel, rfl⟩
theorem d16_16 : DAt B16 16 (.aload_n 0) 1 17 := ⟨by decide +kernel, rfl⟩
theorem d16_17 : DAt B16 17 (.getfield 41) 3 20 := ⟨by decide +kernel, rfl⟩
theorem d16_20 : DAt B16 20 (.iload_n 1) 1 21 := ⟨by decide +kernel, rfl⟩
theorem d16_21 : DAt B16 21 (.iaload) 1 22 := ⟨by decide +kernel, rfl⟩
theorem d16_22 : DAt B16 22 (.ifCond .ne 14) 3 25 := ⟨by decide +kernel, rfl⟩
theorem d16_25 : DAt B16 25 (.aload_n 0) 1 26 := ⟨by decide +kernel, rfl⟩
theorem d16_26 : DAt B16 26 (.getfield 44) 3 29 := ⟨by decide +kernel, rfl⟩
theorem d16_29 : DAt B16 29 (.iload_n 1) 1 30 := ⟨by decide +kernel, rfl⟩
theorem d16_30 : DAt B16 30 (.iaload) 1 31 := ⟨by decide +kernel, rfl⟩
theorem d16_31 : DAt B16 31 (.ifCond .eq 5) 3 34 := ⟨by decide +kernel, rfl⟩
theorem d16_34 : DAt B16 34 (.iconst 0) 1 35 := ⟨by decide +kernel, rfl⟩
theorem d16_35 : DAt B16 35 (.ireturn) 1 36 := ⟨by decide +kernel, rfl⟩
theorem d16_36 : DAt B16 36 (.iinc 1 1) 3 39 := ⟨by decide +kernel, rfl⟩
theorem d16_39 : DAt B16 39 (.goto (-37)) 3 42 := ⟨by decide +kernel, rfl⟩
theorem d16_42 : DAt B16 42 (.iconst 1) 1 43 := ⟨by decide +kernel, rfl⟩
theorem d16_43 : DAt B16 43 (.ireturn) 1 44 := ⟨by decide +kernel, rfl⟩
def B11 : Bdy := ((⟨"XorGaussSat", "ensureEchelon", "()V"⟩ : MethodName), prog_1_method_34_code, 2, none, ({ frames := 2, cells := 0, slots := 0, locals := 30 } : Room))
theorem d11_0 : DAt B11 0 (.aload_n 0) 1 1 := ⟨by decide +kernel, rfl⟩
theorem d11_1 : DAt B11 1 (.getfield 87) 3 4 := ⟨by decide +kernel, rfl⟩
theorem d11_4 : DAt B11 4 (.ifCond .eq 4) 3 7 := ⟨by decide +kernel, rfl⟩
theorem d11_7 : DAt B11 7 (.return_) 1 8 := ⟨by decide +kernel, rfl⟩
theorem d11_8 : DAt B11 8 (.aload_n 0) 1 9 := ⟨by decide +kernel, rfl⟩
theorem d11_9 : DAt B11 9 (.iconst 0) 1 10 := ⟨by decide +kernel, rfl⟩
theorem d11_10 : DAt B11 10 (.putfield 154) 3 13 := ⟨by decide +kernel, rfl⟩
theorem d11_13 : DAt B11 13 (.iconst 0) 1 14 := ⟨by decide +kernel, rfl⟩
theorem d11_14 : DAt B11 14 (.istore_n 1) 1 15 := ⟨by decide +kernel, rfl⟩
theorem d11_15 : DAt B11 15 (.iload_n 1) 1 16 := ⟨by decide +kernel, rfl⟩
theorem d11_16 : DAt B11 16 (.aload_n 0) 1 17 := ⟨by decide +kernel, rfl⟩
theorem d11_17 : DAt B11 17 (.getfield 81) 3 20 := ⟨by decide +kernel, rfl⟩
theorem d11_20 : DAt B11 20 (.if_icmp .ge 49) 3 23 := ⟨by decide +kernel, rfl⟩
theorem d11_23 : DAt B11 23 (.iload_n 1) 1 24 := ⟨by decide +kernel, rfl⟩
theorem d11_24 : DAt B11 24 (.bipush 16) 2 26 := ⟨by decide +kernel, rfl⟩
theorem d11_26 : DAt B11 26 (.if_icmp .ge 43) 3 29 := ⟨by decide +kernel, rfl⟩
theorem d11_29 : DAt B11 29 (.aload_n 0) 1 30 := ⟨by decide +kernel, rfl⟩
theorem d11_30 : DAt B11 30 (.getfield 41) 3 33 := ⟨by decide +kernel, rfl⟩
theorem d11_33 : DAt B11 33 (.iload_n 1) 1 34 := ⟨by decide +kernel, rfl⟩
theorem d11_34 : DAt B11 34 (.aload_n 0) 1 35 := ⟨by decide +kernel, rfl⟩
theorem d11_35 : DAt B11 35 (.getfield 23) 3 38 := ⟨by decide +kernel, rfl⟩
theorem d11_38 : DAt B11 38 (.iload_n 1) 1 39 := ⟨by decide +kernel, rfl⟩
theorem d11_39 : DAt B11 39 (.iaload) 1 40 := ⟨by decide +kernel, rfl⟩
theorem d11_40 : DAt B11 40 (.iastore) 1 41 := ⟨by decide +kernel, rfl⟩
theorem d11_41 : DAt B11 41 (.aload_n 0) 1 42 := ⟨by decide +kernel, rfl⟩
theorem d11_42 : DAt B11 42 (.getfield 44) 3 45 := ⟨by decide +kernel, rfl⟩
theorem d11_45 : DAt B11 45 (.iload_n 1) 1 46 := ⟨by decide +kernel, rfl⟩
theorem d11_46 : DAt B11 46 (.aload_n 0) 1 47 := ⟨by decide +kernel, rfl⟩
theorem d11_47 : DAt B11 47 (.getfield 26) 3 50 := ⟨by decide +kernel, rfl⟩
theorem d11_50 : DAt B11 50 (.iload_n 1) 1 51 := ⟨by decide +kernel, rfl⟩
theorem d11_51 : DAt B11 51 (.iaload) 1 52 := ⟨by decide +kernel, rfl⟩
theorem d11_52 : DAt B11 52 (.iastore) 1 53 := ⟨by decide +kernel, rfl⟩
theorem d11_53 : DAt B11 53 (.aload_n 0) 1 54 := ⟨by decide +kernel, rfl⟩
theorem d11_54 : DAt B11 54 (.dup) 1 55 := ⟨by decide +kernel, rfl⟩
theorem d11_55 : DAt B11 55 (.getfield 154) 3 58 := ⟨by decide +kernel, rfl⟩
theorem d11_58 : DAt B11 58 (.iconst 1) 1 59 := ⟨by decide +kernel, rfl⟩
theorem d11_59 : DAt B11 59 (.iadd) 1 60 := ⟨by decide +kernel, rfl⟩
theorem d11_60 : DAt B11 60 (.putfield 154) 3 63 := ⟨by decide +kernel, rfl⟩
theorem d11_63 : DAt B11 63 (.iinc 1 1) 3 66 := ⟨by decide +kernel, rfl⟩
theorem d11_66 : DAt B11 66 (.goto (-51)) 3 69 := ⟨by decide +kernel, rfl⟩
theorem d11_69 : DAt B11 69 (.aload_n 0) 1 70 := ⟨by decide +kernel, rfl⟩
theorem d11_70 : DAt B11 70 (.invokevirtual 157) 3 73 := ⟨by decide +kernel, rfl⟩
theorem d11_73 : DAt B11 73 (.aload_n 0) 1 74 := ⟨by decide +kernel, rfl⟩
theorem d11_74 : DAt B11 74 (.aload_n 0) 1 75 := ⟨by decide +kernel, rfl⟩
theorem d11_75 : DAt B11 75 (.invokevirtual 160) 3 78 := ⟨by decide +kernel, rfl⟩
theorem d11_78 : DAt B11 78 (.putfield 91) 3 81 := ⟨by decide +kernel, rfl⟩
theorem d11_81 : DAt B11 81 (.aload_n 0) 1 82 := ⟨by decide +kernel, rfl⟩
theorem d11_82 : DAt B11 82 (.iconst 0) 1 83 := ⟨by decide +kernel, rfl⟩
theorem d11_83 : DAt B11 83 (.putfield 94) 3 86 := ⟨by decide +kernel, rfl⟩
theorem d11_86 : DAt B11 86 (.iconst 0) 1 87 := ⟨by decide +kernel, rfl⟩
theorem d11_87 : DAt B11 87 (.istore_n 1) 1 88 := ⟨by decide +kernel, rfl⟩
theorem d11_88 : DAt B11 88 (.iload_n 1) 1 89 := ⟨by decide +kernel, rfl⟩
theorem d11_89 : DAt B11 89 (.aload_n 0) 1 90 := ⟨by decide +kernel, rfl⟩
theorem d11_90 : DAt B11 90 (.getfield 141) 3 93 := ⟨by decide +kernel, rfl⟩
theorem d11_93 : DAt B11 93 (.if_icmp .ge 61) 3 96 := ⟨by decide +kernel, rfl⟩
theorem d11_96 : DAt B11 96 (.iload_n 1) 1 97 := ⟨by decide +kernel, rfl⟩
theorem d11_97 : DAt B11 97 (.bipush 16) 2 99 := ⟨by decide +kernel, rfl⟩
theorem d11_99 : DAt B11 99 (.if_icmp .ge 55) 3 102 := ⟨by decide +kernel, rfl⟩
theorem d11_102 : DAt B11 102 (.aload_n 0) 1 103 := ⟨by decide +kernel, rfl⟩
theorem d11_103 : DAt B11 103 (.getfield 32) 3 106 := ⟨by decide +kernel, rfl⟩
theorem d11_106 : DAt B11 106 (.iload_n 1) 1 107 := ⟨by decide +kernel, rfl⟩
theorem d11_107 : DAt B11 107 (.aload_n 0) 1 108 := ⟨by decide +kernel, rfl⟩
theorem d11_108 : DAt B11 108 (.getfield 41) 3 111 := ⟨by decide +kernel, rfl⟩
theorem d11_111 : DAt B11 111 (.iload_n 1) 1 112 := ⟨by decide +kernel, rfl⟩
theorem d11_112 : DAt B11 112 (.iaload) 1 113 := ⟨by decide +kernel, rfl⟩
theorem d11_113 : DAt B11 113 (.iastore) 1 114 := ⟨by decide +kernel, rfl⟩
theorem d11_114 : DAt B11 114 (.aload_n 0) 1 115 := ⟨by decide +kernel, rfl⟩
theorem d11_115 : DAt B11 115 (.getfield 35) 3 118 := ⟨by decide +kernel, rfl⟩
theorem d11_118 : DAt B11 118 (.iload_n 1) 1 119 := ⟨by decide +kernel, rfl⟩
theorem d11_119 : DAt B11 119 (.aload_n 0) 1 120 := ⟨by decide +kernel, rfl⟩
theorem d11_120 : DAt B11 120 (.getfield 44) 3 123 := ⟨by decide +kernel, rfl⟩
theorem d11_123 : DAt B11 123 (.iload_n 1) 1 124 := ⟨by decide +kernel, rfl⟩
theorem d11_124 : DAt B11 124 (.iaload) 1 125 := ⟨by decide +kernel, rfl⟩
theorem d11_125 : DAt B11 125 (.iastore) 1 126 := ⟨by decide +kernel, rfl⟩
theorem d11_126 : DAt B11 126 (.aload_n 0) 1 127 := ⟨by decide +kernel, rfl⟩
theorem d11_127 : DAt B11 127 (.getfield 38) 3 130 := ⟨by decide +kernel, rfl⟩
theorem d11_130 : DAt B11 130 (.iload_n 1) 1 131 := ⟨by decide +kernel, rfl⟩
theorem d11_131 : DAt B11 131 (.aload_n 0) 1 132 := ⟨by decide +kernel, rfl⟩
theorem d11_132 : DAt B11 132 (.getfield 47) 3 135 := ⟨by decide +kernel, rfl⟩
theorem d11_135 : DAt B11 135 (.iload_n 1) 1 136 := ⟨by decide +kernel, rfl⟩
theorem d11_136 : DAt B11 136 (.iaload) 1 137 := ⟨by decide +kernel, rfl⟩
theorem d11_137 : DAt B11 137 (.iastore) 1 138 := ⟨by decide +kernel, rfl⟩
theorem d11_138 : DAt B11 138 (.aload_n 0) 1 139 := ⟨by decide +kernel, rfl⟩
theorem d11_139 : DAt B11 139 (.dup) 1 140 := ⟨by decide +kernel, rfl⟩
theorem d11_140 : DAt B11 140 (.getfield 94) 3 143 := ⟨by decide +kernel, rfl⟩
theorem d11_143 : DAt B11 143 (.iconst 1) 1 144 := ⟨by decide +kernel, rfl⟩
theorem d11_144 : DAt B11 144 (.iadd) 1 145 := ⟨by decide +kernel, rfl⟩
theorem d11_145 : DAt B11 145 (.putfield 94) 3 148 := ⟨by decide +kernel, rfl⟩
theorem d11_148 : DAt B11 148 (.iinc 1 1) 3 151 := ⟨by decide +kernel, rfl⟩
theorem d11_151 : DAt B11 151 (.goto (-63)) 3 154 := ⟨by decide +kernel, rfl⟩
theorem d11_154 : DAt B11 154 (.aload_n 0) 1 155 := ⟨by decide +kernel, rfl⟩
theorem d11_155 : DAt B11 155 (.iconst 1) 1 156 := ⟨by decide +kernel, rfl⟩
theorem d11_156 : DAt B11 156 (.putfield 87) 3 159 := ⟨by decide +kernel, rfl⟩
theorem d11_159 : DAt B11 159 (.return_) 1 160 := ⟨by decide +kernel, rfl⟩
def B17 : Bdy := ((⟨"XorGaussSat", "resetSearch", "()V"⟩ : MethodName), prog_1_method_39_code, 1, none, ({ frames := 0, cells := 0, slots := 0, locals := 0 } : Room))
theorem d17_0 : DAt B17 0 (.aload_n 0) 1 1 := ⟨by decide +kernel, rfl⟩
theorem d17_1 : DAt B17 1 (.iconst 0) 1 2 := ⟨by decide +kernel, rfl⟩
theorem d17_2 : DAt B17 2 (.putfield 183) 3 5 := ⟨by decide +kernel, rfl⟩
theorem d17_5 : DAt B17 5 (.aload_n 0) 1 6 := ⟨by decide +kernel, rfl⟩
theorem d17_6 : DAt B17 6 (.iconst 0) 1 7 := ⟨by decide +kernel, rfl⟩
theorem d17_7 : DAt B17 7 (.putfield 186) 3 10 := ⟨by decide +kernel, rfl⟩
theorem d17_10 : DAt B17 10 (.aload_n 0) 1 11 := ⟨by decide +kernel, rfl⟩
theorem d17_11 : DAt B17 11 (.iconst 0) 1 12 := ⟨by decide +kernel, rfl⟩
theorem d17_12 : DAt B17 12 (.putfield 195) 3 15 := ⟨by decide +kernel, rfl⟩
theorem d17_15 : DAt B17 15 (.aload_n 0) 1 16 := ⟨by decide +kernel, rfl⟩
theorem d17_16 : DAt B17 16 (.iconst 0) 1 17 := ⟨by decide +kernel, rfl⟩
theorem d17_17 : DAt B17 17 (.putfield 198) 3 20 := ⟨by decide +kernel, rfl⟩
theorem d17_20 : DAt B17 20 (.aload_n 0) 1 21 := ⟨by decide +kernel, rfl⟩
theorem d17_21 : DAt B17 21 (.iconst 0) 1 22 := ⟨by decide +kernel, rfl⟩
theorem d17_22 : DAt B17 22 (.putfield 116) 3 25 := ⟨by decide +kernel, rfl⟩
theorem d17_25 : DAt B17 25 (.return_) 1 26 := ⟨by decide +kernel, rfl⟩
def B27 : Bdy := ((⟨"XorGaussSat", "assign", "(II)V"⟩ : MethodName), prog_1_method_40_code, 4, none, ({ frames := 0, cells := 0, slots := 0, locals := 0 } : Room))
theorem d27_0 : DAt B27 0 (.iload_n 1) 1 1 := ⟨by decide +kernel, rfl⟩
theorem d27_1 : DAt B27 1 (.ifCond .lt 11) 3 4 := ⟨by decide +kernel, rfl⟩
theorem d27_4 : DAt B27 4 (.iload_n 1) 1 5 := ⟨by decide +kernel, rfl⟩
theorem d27_5 : DAt B27 5 (.aload_n 0) 1 6 := ⟨by decide +kernel, rfl⟩
theorem d27_6 : DAt B27 6 (.getfield 62) 3 9 := ⟨by decide +kernel, rfl⟩
theorem d27_9 : DAt B27 9 (.if_icmp .lt 4) 3 12 := ⟨by decide +kernel, rfl⟩
theorem d27_12 : DAt B27 12 (.return_) 1 13 := ⟨by decide +kernel, rfl⟩
theorem d27_13 : DAt B27 13 (.iconst 1) 1 14 := ⟨by decide +kernel, rfl⟩
theorem d27_14 : DAt B27 14 (.iload_n 1) 1 15 := ⟨by decide +kernel, rfl⟩
theorem d27_15 : DAt B27 15 (.ishl) 1 16 := ⟨by decide +kernel, rfl⟩
theorem d27_16 : DAt B27 16 (.istore_n 3) 1 17 := ⟨by decide +kernel, rfl⟩
theorem d27_17 : DAt B27 17 (.aload_n 0) 1 18 := ⟨by decide +kernel, rfl⟩
theorem d27_18 : DAt B27 18 (.getfield 183) 3 21 := ⟨by decide +kernel, rfl⟩
theorem d27_21 : DAt B27 21 (.iload_n 3) 1 22 := ⟨by decide +kernel, rfl⟩
theorem d27_22 : DAt B27 22 (.iand) 1 23 := ⟨by decide +kernel, rfl⟩
theorem d27_23 : DAt B27 23 (.ifCond .eq 4) 3 26 := ⟨by decide +kernel, rfl⟩
theorem d27_26 : DAt B27 26 (.return_) 1 27 := ⟨by decide +kernel, rfl⟩
theorem d27_27 : DAt B27 27 (.aload_n 0) 1 28 := ⟨by decide +kernel, rfl⟩
theorem d27_28 : DAt B27 28 (.getfield 195) 3 31 := ⟨by decide +kernel, rfl⟩
theorem d27_31 : DAt B27 31 (.ifCond .lt 12) 3 34 := ⟨by decide +kernel, rfl⟩
theorem d27_34 : DAt B27 34 (.aload_n 0) 1 35 := ⟨by decide +kernel, rfl⟩
theorem d27_35 : DAt B27 35 (.getfield 195) 3 38 := ⟨by decide +kernel, rfl⟩
theorem d27_38 : DAt B27 38 (.bipush 12) 2 40 := ⟨by decide +kernel, rfl⟩
theorem d27_40 : DAt B27 40 (.if_icmp .lt 4) 3 43 := ⟨by decide +kernel, rfl⟩
theorem d27_43 : DAt B27 43 (.return_) 1 44 := ⟨by decide +kernel, rfl⟩
theorem d27_44 : DAt B27 44 (.aload_n 0) 1 45 := ⟨by decide +kernel, rfl⟩
theorem d27_45 : DAt B27 45 (.dup) 1 46 := ⟨by decide +kernel, rfl⟩
theorem d27_46 : DAt B27 46 (.getfield 183) 3 49 := ⟨by decide +kernel, rfl⟩
theorem d27_49 : DAt B27 49 (.iload_n 3) 1 50 := ⟨by decide +kernel, rfl⟩
theorem d27_50 : DAt B27 50 (.ior) 1 51 := ⟨by decide +kernel, rfl⟩
theorem d27_51 : DAt B27 51 (.putfield 183) 3 54 := ⟨by decide +kernel, rfl⟩
theorem d27_54 : DAt B27 54 (.iload_n 2) 1 55 := ⟨by decide +kernel, rfl⟩
theorem d27_55 : DAt B27 55 (.ifCond .eq 16) 3 58 := ⟨by decide +kernel, rfl⟩
theorem d27_58 : DAt B27 58 (.aload_n 0) 1 59 := ⟨by decide +kernel, rfl⟩
theorem d27_59 : DAt B27 59 (.dup) 1 60 := ⟨by decide +kernel, rfl⟩
theorem d27_60 : DAt B27 60 (.getfield 186) 3 63 := ⟨by decide +kernel, rfl⟩
theorem d27_63 : DAt B27 63 (.iload_n 3) 1 64 := ⟨by decide +kernel, rfl⟩
theorem d27_64 : DAt B27 64 (.ior) 1 65 := ⟨by decide +kernel, rfl⟩
theorem d27_65 : DAt B27 65 (.putfield 186) 3 68 := ⟨by decide +kernel, rfl⟩
theorem d27_68 : DAt B27 68 (.goto 15) 3 71 := ⟨by decide +kernel, rfl⟩
theorem d27_71 : DAt B27 71 (.aload_n 0) 1 72 := ⟨by decide +kernel, rfl⟩
theorem d27_72 : DAt B27 72 (.dup) 1 73 := ⟨by decide +kernel, rfl⟩
theorem d27_73 : DAt B27 73 (.getfield 186) 3 76 := ⟨by decide +kernel, rfl⟩
theorem d27_76 : DAt B27 76 (.iload_n 3) 1 77 := ⟨by decide +kernel, rfl⟩
theorem d27_77 : DAt B27 77 (.iconst (-1)) 1 78 := ⟨by decide +kernel, rfl⟩
theorem d27_78 : DAt B27 78 (.ixor) 1 79 := ⟨by decide +kernel, rfl⟩
theorem d27_79 : DAt B27 79 (.iand) 1 80 := ⟨by decide +kernel, rfl⟩
theorem d27_80 : DAt B27 80 (.putfield 186) 3 83 := ⟨by decide +kernel, rfl⟩
theorem d27_83 : DAt B27 83 (.aload_n 0) 1 84 := ⟨by decide +kernel, rfl⟩
theorem d27_84 : DAt B27 84 (.getfield 50) 3 87 := ⟨by decide +kernel, rfl⟩
theorem d27_87 : DAt B27 87 (.aload_n 0) 1 88 := ⟨by decide +kernel, rfl⟩
theorem d27_88 : DAt B27 88 (.getfield 195) 3 91 := ⟨by decide +kernel, rfl⟩
theorem d27_91 : DAt B27 91 (.iload_n 1) 1 92 := ⟨by decide +kernel, rfl⟩
theorem d27_92 : DAt B27 92 (.iastore) 1 93 := ⟨by decide +kernel, rfl⟩
theorem d27_93 : DAt B27 93 (.aload_n 0) 1 94 := ⟨by decide +kernel, rfl⟩
theorem d27_94 : DAt B27 94 (.dup) 1 95 := ⟨by decide +kernel, rfl⟩
theorem d27_95 : DAt B27 95 (.getfield 195) 3 98 := ⟨by decide +kernel, rfl⟩
theorem d27_98 : DAt B27 98 (.iconst 1) 1 99 := ⟨by decide +kernel, rfl⟩
theorem d27_99 : DAt B27 99 (.iadd) 1 100 := ⟨by decide +kernel, rfl⟩
theorem d27_100 : DAt B27 100 (.putfield 195) 3 103 := ⟨by decide +kernel, rfl⟩
theorem d27_103 : DAt B27 103 (.return_) 1 104 := ⟨by decide +kernel, rfl⟩
def B21 : Bdy := ((⟨"XorGaussSat", "isSingleBit", "(I)Z"⟩ : MethodName), prog_1_method_28_code, 2, (some .boolean), ({ frames := 0, cells := 0, slots := 0, locals := 0 } : Room))
theorem d21_0 : DAt B21 0 (.iload_n 1) 1 1 := ⟨by decide +kernel, rfl⟩
theorem d21_1 : DAt B21 1 (.ifCond .eq 15) 3 4 := ⟨by decide +kernel, rfl⟩
theorem d21_4 : DAt B21 4 (.iload_n 1) 1 5 := ⟨by decide +kernel, rfl⟩
theorem d21_5 : DAt B21 5 (.iload_n 1) 1 6 := ⟨by decide +kernel, rfl⟩
theorem d21_6 : DAt B21 6 (.iconst 1) 1 7 := ⟨by decide +kernel, rfl⟩
theorem d21_7 : DAt B21 7 (.isub) 1 8 := ⟨by decide +kernel, rfl⟩
theorem d21_8 : DAt B21 8 (.iand) 1 9 := ⟨by decide +kernel, rfl⟩
theorem d21_9 : DAt B21 9 (.ifCond .ne 7) 3 12 := ⟨by decide +kernel, rfl⟩
theorem d21_12 : DAt B21 12 (.iconst 1) 1 13 := ⟨by decide +kernel, rfl⟩
theorem d21_13 : DAt B21 13 (.goto 4) 3 16 := ⟨by decide +kernel, rfl⟩
theorem d21_16 : DAt B21 16 (.iconst 0) 1 17 := ⟨by decide +kernel, rfl⟩
theorem d21_17 : DAt B21 17 (.ireturn) 1 18 := ⟨by decide +kernel, rfl⟩
def B28 : Bdy := ((⟨"XorGaussSat", "lowestBit", "(I)I"⟩ : MethodName), prog_1_method_27_code, 3, (some .int), ({ frames := 0, cells := 0, slots := 0, locals := 0 } : Room))
theorem d28_0 : DAt B28 0 (.iconst 0) 1 1 := ⟨by decide +kernel, rfl⟩
theorem d28_1 : DAt B28 1 (.istore_n 2) 1 2 := ⟨by decide +kernel, rfl⟩
theorem d28_2 : DAt B28 2 (.iload_n 2) 1 3 := ⟨by decide +kernel, rfl⟩
theorem d28_3 : DAt B28 3 (.bipush 32) 2 5 := ⟨by decide +kernel, rfl⟩
theorem d28_5 : DAt B28 5 (.if_icmp .ge 19) 3 8 := ⟨by decide +kernel, rfl⟩
theorem d28_8 : DAt B28 8 (.iload_n 1) 1 9 := ⟨by decide +kernel, rfl⟩
theorem d28_9 : DAt B28 9 (.iload_n 2) 1 10 := ⟨by decide +kernel, rfl⟩
theorem d28_10 : DAt B28 10 (.iushr) 1 11 := ⟨by decide +kernel, rfl⟩
theorem d28_11 : DAt B28 11 (.iconst 1) 1 12 := ⟨by decide +kernel, rfl⟩
theorem d28_12 : DAt B28 12 (.iand) 1 13 := ⟨by decide +kernel, rfl⟩
theorem d28_13 : DAt B28 13 (.ifCond .eq 5) 3 16 := ⟨by decide +kernel, rfl⟩
theorem d28_16 : DAt B28 16 (.iload_n 2) 1 17 := ⟨by decide +kernel, rfl⟩
theorem d28_17 : DAt B28 17 (.ireturn) 1 18 := ⟨by decide +kernel, rfl⟩
theorem d28_18 : DAt B28 18 (.iinc 2 1) 3 21 := ⟨by decide +kernel, rfl⟩
theorem d28_21 : DAt B28 21 (.goto (-19)) 3 24 := ⟨by decide +kernel, rfl⟩
theorem d28_24 : DAt B28 24 (.iconst (-1)) 1 25 := ⟨by decide +kernel, rfl⟩
theorem d28_25 : DAt B28 25 (.ireturn) 1 26 := ⟨by decide +kernel, rfl⟩
def B20 : Bdy := ((⟨"XorGaussSat", "propagateClause", "(I)Z"⟩ : MethodName), prog_1_method_47_code, 9, (some .boolean), ({ frames := 1, cells := 0, slots := 0, locals := 15 } : Room))
theorem d20_0 : DAt B20 0 (.iload_n 1) 1 1 := ⟨by decide +kernel, rfl⟩
theorem d20_1 : DAt B20 1 (.ifCond .lt 9) 3 4 := ⟨by decide +kernel, rfl⟩
theorem d20_4 : DAt B20 4 (.iload_n 1) 1 5 := ⟨by decide +kernel, rfl⟩
theorem d20_5 : DAt B20 5 (.bipush 24) 2 7 := ⟨by decide +kernel, rfl⟩
theorem d20_7 : DAt B20 7 (.if_icmp .lt 5) 3 10 := ⟨by decide +kernel, rfl⟩
theorem d20_10 : DAt B20 10 (.iconst 1) 1 11 := ⟨by decide +kernel, rfl⟩
theorem d20_11 : DAt B20 11 (.ireturn) 1 12 := ⟨by decide +kernel, rfl⟩
theorem d20_12 : DAt B20 12 (.aload_n 0) 1 13 := ⟨by decide +kernel, rfl⟩
theorem d20_13 : DAt B20 13 (.getfield 17) 3 16 := ⟨by decide +kernel, rfl⟩
theorem d20_16 : DAt B20 16 (.iload_n 1) 1 17 := ⟨by decide +kernel, rfl⟩
theorem d20_17 : DAt B20 17 (.iaload) 1 18 := ⟨by decide +kernel, rfl⟩
theorem d20_18 : DAt B20 18 (.istore_n 2) 1 19 := ⟨by decide +kernel, rfl⟩
theorem d20_19 : DAt B20 19 (.aload_n 0) 1 20 := ⟨by decide +kernel, rfl⟩
theorem d20_20 : DAt B20 20 (.getfield 20) 3 23 := ⟨by decide +kernel, rfl⟩
theorem d20_23 : DAt B20 23 (.iload_n 1) 1 24 := ⟨by decide +kernel, rfl⟩
theorem d20_24 : DAt B20 24 (.iaload) 1 25 := ⟨by decide +kernel, rfl⟩
theorem d20_25 : DAt B20 25 (.istore_n 3) 1 26 := ⟨by decide +kernel, rfl⟩
theorem d20_26 : DAt B20 26 (.aload_n 0) 1 27 := ⟨by decide +kernel, rfl⟩
theorem d20_27 : DAt B20 27 (.getfield 183) 3 30 := ⟨by decide +kernel, rfl⟩
theorem d20_30 : DAt B20 30 (.istore 4) 2 32 := ⟨by decide +kernel, rfl⟩
theorem d20_32 : DAt B20 32 (.iload_n 2) 1 33 := ⟨by decide +kernel, rfl⟩
theorem d20_33 : DAt B20 33 (.iload 4) 2 35 := ⟨by decide +kernel, rfl⟩
theorem d20_35 : DAt B20 35 (.iand) 1 36 := ⟨by decide +kernel, rfl⟩
theorem d20_36 : DAt B20 36 (.aload_n 0) 1 37 := ⟨by decide +kernel, rfl⟩
theorem d20_37 : DAt B20 37 (.getfield 186) 3 40 := ⟨by decide +kernel, rfl⟩
theorem d20_40 : DAt B20 40 (.iand) 1 41 := ⟨by decide +kernel, rfl⟩
theorem d20_41 : DAt B20 41 (.iload_n 3) 1 42 := ⟨by decide +kernel, rfl⟩
theorem d20_42 : DAt B20 42 (.iload 4) 2 44 := ⟨by decide +kernel, rfl⟩
theorem d20_44 : DAt B20 44 (.iand) 1 45 := ⟨by decide +kernel, rfl⟩
theorem d20_45 : DAt B20 45 (.aload_n 0) 1 46 := ⟨by decide +kernel, rfl⟩
theorem d20_46 : DAt B20 46 (.getfield 186) 3 49 := ⟨by decide +kernel, rfl⟩
theorem d20_49 : DAt B20 49 (.iconst (-1)) 1 50 := ⟨by decide +kernel, rfl⟩
theorem d20_50 : DAt B20 50 (.ixor) 1 51 := ⟨by decide +kernel, rfl⟩
theorem d20_51 : DAt B20 51 (.iand) 1 52 := ⟨by decide +kernel, rfl⟩
theorem d20_52 : DAt B20 52 (.ior) 1 53 := ⟨by decide +kernel, rfl⟩
theorem d20_53 : DAt B20 53 (.istore 5) 2 55 := ⟨by decide +kernel, rfl⟩
theorem d20_55 : DAt B20 55 (.iload 5) 2 57 := ⟨by decide +kernel, rfl⟩
theorem d20_57 : DAt B20 57 (.ifCond .eq 5) 3 60 := ⟨by decide +kernel, rfl⟩
theorem d20_60 : DAt B20 60 (.iconst 1) 1 61 := ⟨by decide +kernel, rfl⟩
theorem d20_61 : DAt B20 61 (.ireturn) 1 62 := ⟨by decide +kernel, rfl⟩
theorem d20_62 : DAt B20 62 (.iload_n 2) 1 63 := ⟨by decide +kernel, rfl⟩
theorem d20_63 : DAt B20 63 (.iload 4) 2 65 := ⟨by decide +kernel, rfl⟩
theorem d20_65 : DAt B20 65 (.iconst (-1)) 1 66 := ⟨by decide +kernel, rfl⟩
theorem d20_66 : DAt B20 66 (.ixor) 1 67 := ⟨by decide +kernel, rfl⟩
theorem d20_67 : DAt B20 67 (.iand) 1 68 := ⟨by decide +kernel, rfl⟩
theorem d20_68 : DAt B20 68 (.istore 6) 2 70 := ⟨by decide +kernel, rfl⟩
theorem d20_70 : DAt B20 70 (.iload_n 3) 1 71 := ⟨by decide +kernel, rfl⟩
theorem d20_71 : DAt B20 71 (.iload 4) 2 73 := ⟨by decide +kernel, rfl⟩
theorem d20_73 : DAt B20 73 (.iconst (-1)) 1 74 := ⟨by decide +kernel, rfl⟩
theorem d20_74 : DAt B20 74 (.ixor) 1 75 := ⟨by decide +kernel, rfl⟩
theorem d20_75 : DAt B20 75 (.iand) 1 76 := ⟨by decide +kernel, rfl⟩
theorem d20_76 : DAt B20 76 (.istore 7) 2 78 := ⟨by decide +kernel, rfl⟩
theorem d20_78 : DAt B20 78 (.iload 6) 2 80 := ⟨by decide +kernel, rfl⟩
theorem d20_80 : DAt B20 80 (.iload 7) 2 82 := ⟨by decide +kernel, rfl⟩
theorem d20_82 : DAt B20 82 (.ior) 1 83 := ⟨by decide +kernel, rfl⟩
theorem d20_83 : DAt B20 83 (.ifCond .ne 5) 3 86 := ⟨by decide +kernel, rfl⟩
theorem d20_86 : DAt B20 86 (.iconst 0) 1 87 := ⟨by decide +kernel, rfl⟩
theorem d20_87 : DAt B20 87 (.ireturn) 1 88 := ⟨by decide +kernel, rfl⟩
theorem d20_88 : DAt B20 88 (.iload 7) 2 90 := ⟨by decide +kernel, rfl⟩
theorem d20_90 : DAt B20 90 (.ifCond .ne 30) 3 93 := ⟨by decide +kernel, rfl⟩
theorem d20_93 : DAt B20 93 (.aload_n 0) 1 94 := ⟨by decide +kernel, rfl⟩
theorem d20_94 : DAt B20 94 (.iload 6) 2 96 := ⟨by decide +kernel, rfl⟩
theorem d20_96 : DAt B20 96 (.invokevirtual 216) 3 99 := ⟨by decide +kernel, rfl⟩
theorem d20_99 : DAt B20 99 (.ifCond .eq 21) 3 102 := ⟨by decide +kernel, rfl⟩
theorem d20_102 : DAt B20 102 (.aload_n 0) 1 103 := ⟨by decide +kernel, rfl⟩
theorem d20_103 : DAt B20 103 (.iload 6) 2 105 := ⟨by decide +kernel, rfl⟩
theorem d20_105 : DAt B20 105 (.invokevirtual 219) 3 108 := ⟨by decide +kernel, rfl⟩
theorem d20_108 : DAt B20 108 (.istore 8) 2 110 := ⟨by decide +kernel, rfl⟩
theorem d20_110 : DAt B20 110 (.aload_n 0) 1 111 := ⟨by decide +kernel, rfl⟩
theorem d20_111 : DAt B20 111 (.iload 8) 2 113 := ⟨by decide +kernel, rfl⟩
theorem d20_113 : DAt B20 113 (.iconst 1) 1 114 := ⟨by decide +kernel, rfl⟩
theorem d20_114 : DAt B20 114 (.invokevirtual 174) 3 117 := ⟨by decide +kernel, rfl⟩
theorem d20_117 : DAt B20 117 (.goto 32) 3 120 := ⟨by decide +kernel, rfl⟩
theorem d20_120 : DAt B20 120 (.iload 6) 2 122 := ⟨by decide +kernel, rfl⟩
theorem d20_122 : DAt B20 122 (.ifCond .ne 27) 3 125 := ⟨by decide +kernel, rfl⟩
theorem d20_125 : DAt B20 125 (.aload_n 0) 1 126 := ⟨by decide +kernel, rfl⟩
theorem d20_126 : DAt B20 126 (.iload 7) 2 128 := ⟨by decide +kernel, rfl⟩
theorem d20_128 : DAt B20 128 (.invokevirtual 216) 3 131 := ⟨by decide +kernel, rfl⟩
theorem d20_131 : DAt B20 131 (.ifCond .eq 18) 3 134 := ⟨by decide +kernel, rfl⟩
theorem d20_134 : DAt B20 134 (.aload_n 0) 1 135 := ⟨by decide +kernel, rfl⟩
theorem d20_135 : DAt B20 135 (.iload 7) 2 137 := ⟨by decide +kernel, rfl⟩
theorem d20_137 : DAt B20 137 (.invokevirtual 219) 3 140 := ⟨by decide +kernel, rfl⟩
theorem d20_140 : DAt B20 140 (.istore 8) 2 142 := ⟨by decide +kernel, rfl⟩
theorem d20_142 : DAt B20 142 (.aload_n 0) 1 143 := ⟨by decide +kernel, rfl⟩
theorem d20_143 : DAt B20 143 (.iload 8) 2 145 := ⟨by decide +kernel, rfl⟩
theorem d20_145 : DAt B20 145 (.iconst 0) 1 146 := ⟨by decide +kernel, rfl⟩
theorem d20_146 : DAt B20 146 (.invokevirtual 174) 3 149 := ⟨by decide +kernel, rfl⟩
theorem d20_149 : DAt B20 149 (.iconst 1) 1 150 := ⟨by decide +kernel, rfl⟩
theorem d20_150 : DAt B20 150 (.ireturn) 1 151 := ⟨by decide +kernel, rfl⟩
def B19 : Bdy := ((⟨"XorGaussSat", "propagateClauses", "()Z"⟩ : MethodName), prog_1_method_46_code, 2, (some .boolean), ({ frames := 2, cells := 0, slots := 0, locals := 35 } : Room))
theorem d19_0 : DAt B19 0 (.iconst 0) 1 1 := ⟨by decide +kernel, rfl⟩
theorem d19_1 : DAt B19 1 (.istore_n 1) 1 2 := ⟨by decide +kernel, rfl⟩
theorem d19_2 : DAt B19 2 (.iload_n 1) 1 3 := ⟨by decide +kernel, rfl⟩
theorem d19_3 : DAt B19 3 (.aload_n 0) 1 4 := ⟨by decide +kernel, rfl⟩
theorem d19_4 : DAt B19 4 (.getfield 78) 3 7 := ⟨by decide +kernel, rfl⟩
theorem d19_7 : DAt B19 7 (.if_icmp .ge 25) 3 10 := ⟨by decide +kernel, rfl⟩
theorem d19_10 : DAt B19 10 (.iload_n 1) 1 11 := ⟨by decide +kernel, rfl⟩
theorem d19_11 : DAt B19 11 (.bipush 24) 2 13 := ⟨by decide +kernel, rfl⟩
theorem d19_13 : DAt B19 13 (.if_icmp .ge 19) 3 16 := ⟨by decide +kernel, rfl⟩
theorem d19_16 : DAt B19 16 (.aload_n 0) 1 17 := ⟨by decide +kernel, rfl⟩
theorem d19_17 : DAt B19 17 (.iload_n 1) 1 18 := ⟨by decide +kernel, rfl⟩
theorem d19_18 : DAt B19 18 (.invokevirtual 213) 3 21 := ⟨by decide +kernel, rfl⟩
theorem d19_21 : DAt B19 21 (.ifCond .ne 5) 3 24 := ⟨by decide +kernel, rfl⟩
theorem d19_24 : DAt B19 24 (.iconst 0) 1 25 := ⟨by decide +kernel, rfl⟩
theorem d19_25 : DAt B19 25 (.ireturn) 1 26 := ⟨by decide +kernel, rfl⟩
theorem d19_26 : DAt B19 26 (.iinc 1 1) 3 29 := ⟨by decide +kernel, rfl⟩
theorem d19_29 : DAt B19 29 (.goto (-27)) 3 32 := ⟨by decide +kernel, rfl⟩
theorem d19_32 : DAt B19 32 (.iconst 1) 1 33 := ⟨by decide +kernel, rfl⟩
theorem d19_33 : DAt B19 33 (.ireturn) 1 34 := ⟨by decide +kernel, rfl⟩
def B24 : Bdy := ((⟨"XorGaussSat", "parity", "(I)I"⟩ : MethodName), prog_1_method_25_code, 3, (some .int), ({ frames := 0, cells := 0, slots := 0, locals := 0 } : Room))
theorem d24_0 : DAt B24 0 (.iload_n 1) 1 1 := ⟨by decide +kernel, rfl⟩
theorem d24_1 : DAt B24 1 (.iload_n 1) 1 2 := ⟨by decide +kernel, rfl⟩
theorem d24_2 : DAt B24 2 (.bipush 16) 2 4 := ⟨by decide +kernel, rfl⟩
theorem d24_4 : DAt B24 4 (.iushr) 1 5 := ⟨by decide +kernel, rfl⟩
theorem d24_5 : DAt B24 5 (.ixor) 1 6 := ⟨by decide +kernel, rfl⟩
theorem d24_6 : DAt B24 6 (.istore_n 2) 1 7 := ⟨by decide +kernel, rfl⟩
theorem d24_7 : DAt B24 7 (.iload_n 2) 1 8 := ⟨by decide +kernel, rfl⟩
theorem d24_8 : DAt B24 8 (.iload_n 2) 1 9 := ⟨by decide +kernel, rfl⟩
theorem d24_9 : DAt B24 9 (.bipush 8) 2 11 := ⟨by decide +kernel, rfl⟩
theorem d24_11 : DAt B24 11 (.iushr) 1 12 := ⟨by decide +kernel, rfl⟩
theorem d24_12 : DAt B24 12 (.ixor) 1 13 := ⟨by decide +kernel, rfl⟩
theorem d24_13 : DAt B24 13 (.istore_n 2) 1 14 := ⟨by decide +kernel, rfl⟩
theorem d24_14 : DAt B24 14 (.iload_n 2) 1 15 := ⟨by decide +kernel, rfl⟩
theorem d24_15 : DAt B24 15 (.iload_n 2) 1 16 := ⟨by decide +kernel, rfl⟩
theorem d24_16 : DAt B24 16 (.iconst 4) 1 17 := ⟨by decide +kernel, rfl⟩
theorem d24_17 : DAt B24 17 (.iushr) 1 18 := ⟨by decide +kernel, rfl⟩
theorem d24_18 : DAt B24 18 (.ixor) 1 19 := ⟨by decide +kernel, rfl⟩
theorem d24_19 : DAt B24 19 (.istore_n 2) 1 20 := ⟨by decide +kernel, rfl⟩
theorem d24_20 : DAt B24 20 (.iload_n 2) 1 21 := ⟨by decide +kernel, rfl⟩
theorem d24_21 : DAt B24 21 (.iload_n 2) 1 22 := ⟨by decide +kernel, rfl⟩
theorem d24_22 : DAt B24 22 (.iconst 2) 1 23 := ⟨by decide +kernel, rfl⟩
theorem d24_23 : DAt B24 23 (.iushr) 1 24 := ⟨by decide +kernel, rfl⟩
theorem d24_24 : DAt B24 24 (.ixor) 1 25 := ⟨by decide +kernel, rfl⟩
theorem d24_25 : DAt B24 25 (.istore_n 2) 1 26 := ⟨by decide +kernel, rfl⟩
theorem d24_26 : DAt B24 26 (.iload_n 2) 1 27 := ⟨by decide +kernel, rfl⟩
theorem d24_27 : DAt B24 27 (.iload_n 2) 1 28 := ⟨by decide +kernel, rfl⟩
theorem d24_28 : DAt B24 28 (.iconst 1) 1 29 := ⟨by decide +kernel, rfl⟩
theorem d24_29 : DAt B24 29 (.iushr) 1 30 := ⟨by decide +kernel, rfl⟩
theorem d24_30 : DAt B24 30 (.ixor) 1 31 := ⟨by decide +kernel, rfl⟩
theorem d24_31 : DAt B24 31 (.istore_n 2) 1 32 := ⟨by decide +kernel, rfl⟩
theorem d24_32 : DAt B24 32 (.iload_n 2) 1 33 := ⟨by decide +kernel, rfl⟩
theorem d24_33 : DAt B24 33 (.iconst 1) 1 34 := ⟨by decide +kernel, rfl⟩
theorem d24_34 : DAt B24 34 (.iand) 1 35 := ⟨by decide +kernel, rfl⟩
theorem d24_35 : DAt B24 35 (.ireturn) 1 36 := ⟨by decide +kernel, rfl⟩
def B23 : Bdy := ((⟨"XorGaussSat", "loadResidualRows", "()V"⟩ : MethodName), prog_1_method_48_code, 3, none, ({ frames := 1, cells := 0, slots := 0, locals := 17 } : Room))
theorem d23_0 : DAt B23 0 (.aload_n 0) 1 1 := ⟨by decide +kernel, rfl⟩
theorem d23_1 : DAt B23 1 (.iconst 0) 1 2 := ⟨by decide +kernel, rfl⟩
theorem d23_2 : DAt B23 2 (.putfield 154) 3 5 := ⟨by decide +kernel, rfl⟩
theorem d23_5 : DAt B23 5 (.iconst 0) 1 6 := ⟨by decide +kernel, rfl⟩
theorem d23_6 : DAt B23 6 (.istore_n 1) 1 7 := ⟨by decide +kernel, rfl⟩
theorem d23_7 : DAt B23 7 (.iload_n 1) 1 8 := ⟨by decide +kernel, rfl⟩
theorem d23_8 : DAt B23 8 (.aload_n 0) 1 9 := ⟨by decide +kernel, rfl⟩
theorem d23_9 : DAt B23 9 (.getfield 94) 3 12 := ⟨by decide +kernel, rfl⟩
theorem d23_12 : DAt B23 12 (.if_icmp .ge 74) 3 15 := ⟨by decide +kernel, rfl⟩
theorem d23_15 : DAt B23 15 (.iload_n 1) 1 16 := ⟨by decide +kernel, rfl⟩
theorem d23_16 : DAt B23 16 (.bipush 16) 2 18 := ⟨by decide +kernel, rfl⟩
theorem d23_18 : DAt B23 18 (.if_icmp .ge 68) 3 21 := ⟨by decide +kernel, rfl⟩
theorem d23_21 : DAt B23 21 (.aload_n 0) 1 22 := ⟨by decide +kernel, rfl⟩
theorem d23_22 : DAt B23 22 (.getfield 32) 3 25 := ⟨by decide +kernel, rfl⟩
theorem d23_25 : DAt B23 25 (.iload_n 1) 1 26 := ⟨by decide +kernel, rfl⟩
theorem d23_26 : DAt B23 26 (.iaload) 1 27 := ⟨by decide +kernel, rfl⟩
theorem d23_27 : DAt B23 27 (.istore_n 2) 1 28 := ⟨by decide +kernel, rfl⟩
theorem d23_28 : DAt B23 28 (.aload_n 0) 1 29 := ⟨by decide +kernel, rfl⟩
theorem d23_29 : DAt B23 29 (.getfield 41) 3 32 := ⟨by decide +kernel, rfl⟩
theorem d23_32 : DAt B23 32 (.iload_n 1) 1 33 := ⟨by decide +kernel, rfl⟩
theorem d23_33 : DAt B23 33 (.iload_n 2) 1 34 := ⟨by decide +kernel, rfl⟩
theorem d23_34 : DAt B23 34 (.aload_n 0) 1 35 := ⟨by decide +kernel, rfl⟩
theorem d23_35 : DAt B23 35 (.getfield 183) 3 38 := ⟨by decide +kernel, rfl⟩
theorem d23_38 : DAt B23 38 (.iconst (-1)) 1 39 := ⟨by decide +kernel, rfl⟩
theorem d23_39 : DAt B23 39 (.ixor) 1 40 := ⟨by decide +kernel, rfl⟩
theorem d23_40 : DAt B23 40 (.iand) 1 41 := ⟨by decide +kernel, rfl⟩
theorem d23_41 : DAt B23 41 (.iastore) 1 42 := ⟨by decide +kernel, rfl⟩
theorem d23_42 : DAt B23 42 (.aload_n 0) 1 43 := ⟨by decide +kernel, rfl⟩
theorem d23_43 : DAt B23 43 (.getfield 44) 3 46 := ⟨by decide +kernel, rfl⟩
theorem d23_46 : DAt B23 46 (.iload_n 1) 1 47 := ⟨by decide +kernel, rfl⟩
theorem d23_47 : DAt B23 47 (.aload_n 0) 1 48 := ⟨by decide +kernel, rfl⟩
theorem d23_48 : DAt B23 48 (.getfield 35) 3 51 := ⟨by decide +kernel, rfl⟩
theorem d23_51 : DAt B23 51 (.iload_n 1) 1 52 := ⟨by decide +kernel, rfl⟩
theorem d23_52 : DAt B23 52 (.iaload) 1 53 := ⟨by decide +kernel, rfl⟩
theorem d23_53 : DAt B23 53 (.aload_n 0) 1 54 := ⟨by decide +kernel, rfl⟩
theorem d23_54 : DAt B23 54 (.iload_n 2) 1 55 := ⟨by decide +kernel, rfl⟩
theorem d23_55 : DAt B23 55 (.aload_n 0) 1 56 := ⟨by decide +kernel, rfl⟩
theorem d23_56 : DAt B23 56 (.getfield 183) 3 59 := ⟨by decide +kernel, rfl⟩
theorem d23_59 : DAt B23 59 (.iand) 1 60 := ⟨by decide +kernel, rfl⟩
theorem d23_60 : DAt B23 60 (.aload_n 0) 1 61 := ⟨by decide +kernel, rfl⟩
theorem d23_61 : DAt B23 61 (.getfield 186) 3 64 := ⟨by decide +kernel, rfl⟩
theorem d23_64 : DAt B23 64 (.iand) 1 65 := ⟨by decide +kernel, rfl⟩
theorem d23_65 : DAt B23 65 (.invokevirtual 138) 3 68 := ⟨by decide +kernel, rfl⟩
theorem d23_68 : DAt B23 68 (.ixor) 1 69 := ⟨by decide +kernel, rfl⟩
theorem d23_69 : DAt B23 69 (.iastore) 1 70 := ⟨by decide +kernel, rfl⟩
theorem d23_70 : DAt B23 70 (.aload_n 0) 1 71 := ⟨by decide +kernel, rfl⟩
theorem d23_71 : DAt B23 71 (.dup) 1 72 := ⟨by decide +kernel, rfl⟩
theorem d23_72 : DAt B23 72 (.getfield 154) 3 75 := ⟨by decide +kernel, rfl⟩
theorem d23_75 : DAt B23 75 (.iconst 1) 1 76 := ⟨by decide +kernel, rfl⟩
theorem d23_76 : DAt B23 76 (.iadd) 1 77 := ⟨by decide +kernel, rfl⟩
theorem d23_77 : DAt B23 77 (.putfield 154) 3 80 := ⟨by decide +kernel, rfl⟩
theorem d23_80 : DAt B23 80 (.iinc 1 1) 3 83 := ⟨by decide +kernel, rfl⟩
theorem d23_83 : DAt B23 83 (.goto (-76)) 3 86 := ⟨by decide +kernel, rfl⟩
theorem d23_86 : DAt B23 86 (.return_) 1 87 := ⟨by decide +kernel, rfl⟩
def B22 : Bdy := ((⟨"XorGaussSat", "propagateXors", "()Z"⟩ : MethodName), prog_1_method_49_code, 4, (some .boolean), ({ frames := 2, cells := 0, slots := 0, locals := 31 } : Room))
theorem d22_0 : DAt B22 0 (.aload_n 0) 1 1 := ⟨by decide +kernel, rfl⟩
theorem d22_1 : DAt B22 1 (.invokevirtual 222) 3 4 := ⟨by decide +kernel, rfl⟩
theorem d22_4 : DAt B22 4 (.aload_n 0) 1 5 := ⟨by decide +kernel, rfl⟩
theorem d22_5 : DAt B22 5 (.invokevirtual 157) 3 8 := ⟨by decide +kernel, rfl⟩
theorem d22_8 : DAt B22 8 (.iconst 0) 1 9 := ⟨by decide +kernel, rfl⟩
theorem d22_9 : DAt B22 9 (.istore_n 1) 1 10 := ⟨by decide +kernel, rfl⟩
theorem d22_10 : DAt B22 10 (.iload_n 1) 1 11 := ⟨by decide +kernel, rfl⟩
theorem d22_11 : DAt B22 11 (.aload_n 0) 1 12 := ⟨by decide +kernel, rfl⟩
theorem d22_12 : DAt B22 12 (.getfield 154) 3 15 := ⟨by decide +kernel, rfl⟩
theorem d22_15 : DAt B22 15 (.if_icmp .ge 62) 3 18 := ⟨by decide +kernel, rfl⟩
theorem d22_18 : DAt B22 18 (.iload_n 1) 1 19 := ⟨by decide +kernel, rfl⟩
theorem d22_19 : DAt B22 19 (.bipush 16) 2 21 := ⟨by decide +kernel, rfl⟩
theorem d22_21 : DAt B22 21 (.if_icmp .ge 56) 3 24 := ⟨by decide +kernel, rfl⟩
theorem d22_24 : DAt B22 24 (.aload_n 0) 1 25 := ⟨by decide +kernel, rfl⟩
theorem d22_25 : DAt B22 25 (.getfield 41) 3 28 := ⟨by decide +kernel, rfl⟩
theorem d22_28 : DAt B22 28 (.iload_n 1) 1 29 := ⟨by decide +kernel, rfl⟩
theorem d22_29 : DAt B22 29 (.iaload) 1 30 := ⟨by decide +kernel, rfl⟩
theorem d22_30 : DAt B22 30 (.istore_n 2) 1 31 := ⟨by decide +kernel, rfl⟩
theorem d22_31 : DAt B22 31 (.iload_n 2) 1 32 := ⟨by decide +kernel, rfl⟩
theorem d22_32 : DAt B22 32 (.ifCond .ne 14) 3 35 := ⟨by decide +kernel, rfl⟩
theorem d22_35 : DAt B22 35 (.aload_n 0) 1 36 := ⟨by decide +kernel, rfl⟩
theorem d22_36 : DAt B22 36 (.getfield 44) 3 39 := ⟨by decide +kernel, rfl⟩
theorem d22_39 : DAt B22 39 (.iload_n 1) 1 40 := ⟨by decide +kernel, rfl⟩
theorem d22_40 : DAt B22 40 (.iaload) 1 41 := ⟨by decide +kernel, rfl⟩
theorem d22_41 : DAt B22 41 (.ifCond .eq 30) 3 44 := ⟨by decide +kernel, rfl⟩
theorem d22_44 : DAt B22 44 (.iconst 0) 1 45 := ⟨by decide +kernel, rfl⟩
theorem d22_45 : DAt B22 45 (.ireturn) 1 46 := ⟨by decide +kernel, rfl⟩
theorem d22_46 : DAt B22 46 (.aload_n 0) 1 47 := ⟨by decide +kernel, rfl⟩
theorem d22_47 : DAt B22 47 (.iload_n 2) 1 48 := ⟨by decide +kernel, rfl⟩
theorem d22_48 : DAt B22 48 (.invokevirtual 216) 3 51 := ⟨by decide +kernel, rfl⟩
theorem d22_51 : DAt B22 51 (.ifCond .eq 20) 3 54 := ⟨by decide +kernel, rfl⟩
theorem d22_54 : DAt B22 54 (.aload_n 0) 1 55 := ⟨by decide +kernel, rfl⟩
theorem d22_55 : DAt B22 55 (.iload_n 2) 1 56 := ⟨by decide +kernel, rfl⟩
theorem d22_56 : DAt B22 56 (.invokevirtual 219) 3 59 := ⟨by decide +kernel, rfl⟩
theorem d22_59 : DAt B22 59 (.istore_n 3) 1 60 := ⟨by decide +kernel, rfl⟩
theorem d22_60 : DAt B22 60 (.aload_n 0) 1 61 := ⟨by decide +kernel, rfl⟩
theorem d22_61 : DAt B22 61 (.iload_n 3) 1 62 := ⟨by decide +kernel, rfl⟩
theorem d22_62 : DAt B22 62 (.aload_n 0) 1 63 := ⟨by decide +kernel, rfl⟩
theorem d22_63 : DAt B22 63 (.getfield 44) 3 66 := ⟨by decide +kernel, rfl⟩
theorem d22_66 : DAt B22 66 (.iload_n 1) 1 67 := ⟨by decide +kernel, rfl⟩
theorem d22_67 : DAt B22 67 (.iaload) 1 68 := ⟨by decide +kernel, rfl⟩
theorem d22_68 : DAt B22 68 (.invokevirtual 174) 3 71 := ⟨by decide +kernel, rfl⟩
theorem d22_71 : DAt B22 71 (.iinc 1 1) 3 74 := ⟨by decide +kernel, rfl⟩
theorem d22_74 : DAt B22 74 (.goto (-64)) 3 77 := ⟨by decide +kernel, rfl⟩
theorem d22_77 : DAt B22 77 (.iconst 1) 1 78 := ⟨by decide +kernel, rfl⟩
theorem d22_78 : DAt B22 78 (.ireturn) 1 79 := ⟨by decide +kernel, rfl⟩
def B18 : Bdy := ((⟨"XorGaussSat", "propagate", "()Z"⟩ : MethodName), prog_1_method_45_code, 3, (some .boolean), ({ frames := 3, cells := 0, slots := 0, locals := 48 } : Room))
theorem d18_0 : DAt B18 0 (.iconst 0) 1 1 := ⟨by decide +kernel, rfl⟩
theorem d18_1 : DAt B18 1 (.istore_n 1) 1 2 := ⟨by decide +kernel, rfl⟩
theorem d18_2 : DAt B18 2 (.iload_n 1) 1 3 := ⟨by decide +kernel, rfl⟩
theorem d18_3 : DAt B18 3 (.bipush 14) 2 5 := ⟨by decide +kernel, rfl⟩
theorem d18_5 : DAt B18 5 (.if_icmp .ge 42) 3 8 := ⟨by decide +kernel, rfl⟩
theorem d18_8 : DAt B18 8 (.aload_n 0) 1 9 := ⟨by decide +kernel, rfl⟩
theorem d18_9 : DAt B18 9 (.getfield 195) 3 12 := ⟨by decide +kernel, rfl⟩
theorem d18_12 : DAt B18 12 (.istore_n 2) 1 13 := ⟨by decide +kernel, rfl⟩
theorem d18_13 : DAt B18 13 (.aload_n 0) 1 14 := ⟨by decide +kernel, rfl⟩
theorem d18_14 : DAt B18 14 (.invokevirtual 207) 3 17 := ⟨by decide +kernel, rfl⟩
theorem d18_17 : DAt B18 17 (.ifCond .ne 5) 3 20 := ⟨by decide +kernel, rfl⟩
theorem d18_20 : DAt B18 20 (.iconst 0) 1 21 := ⟨by decide +kernel, rfl⟩
theorem d18_21 : DAt B18 21 (.ireturn) 1 22 := ⟨by decide +kernel, rfl⟩
theorem d18_22 : DAt B18 22 (.aload_n 0) 1 23 := ⟨by decide +kernel, rfl⟩
theorem d18_23 : DAt B18 23 (.invokevirtual 210) 3 26 := ⟨by decide +kernel, rfl⟩
theorem d18_26 : DAt B18 26 (.ifCond .ne 5) 3 29 := ⟨by decide +kernel, rfl⟩
theorem d18_29 : DAt B18 29 (.iconst 0) 1 30 := ⟨by decide +kernel, rfl⟩
theorem d18_30 : DAt B18 30 (.ireturn) 1 31 := ⟨by decide +kernel, rfl⟩
theorem d18_31 : DAt B18 31 (.aload_n 0) 1 32 := ⟨by decide +kernel, rfl⟩
theorem d18_32 : DAt B18 32 (.getfield 195) 3 35 := ⟨by decide +kernel, rfl⟩
theorem d18_35 : DAt B18 35 (.iload_n 2) 1 36 := ⟨by decide +kernel, rfl⟩
theorem d18_36 : DAt B18 36 (.if_icmp .ne 5) 3 39 := ⟨by decide +kernel, rfl⟩
theorem d18_39 : DAt B18 39 (.iconst 1) 1 40 := ⟨by decide +kernel, rfl⟩
theorem d18_40 : DAt B18 40 (.ireturn) 1 41 := ⟨by decide +kernel, rfl⟩
theorem d18_41 : DAt B18 41 (.iinc 1 1) 3 44 := ⟨by decide +kernel, rfl⟩
theorem d18_44 : DAt B18 44 (.goto (-42)) 3 47 := ⟨by decide +kernel, rfl⟩
theorem d18_47 : DAt B18 47 (.iconst 1) 1 48 := ⟨by decide +kernel, rfl⟩
theorem d18_48 : DAt B18 48 (.ireturn) 1 49 := ⟨by decide +kernel, rfl⟩
def B43 : Bdy := ((⟨"XorGaussSat", "undoTo", "(I)V"⟩ : MethodName), prog_1_method_41_code, 5, none, ({ frames := 0, cells := 0, slots := 0, locals := 0 } : Room))
theorem d43_0 : DAt B43 0 (.iconst 0) 1 1 := ⟨by decide +kernel, rfl⟩
theorem d43_1 : DAt B43 1 (.istore_n 2) 1 2 := ⟨by decide +kernel, rfl⟩
theorem d43_2 : DAt B43 2 (.iload_n 2) 1 3 := ⟨by decide +kernel, rfl⟩
theorem d43_3 : DAt B43 3 (.bipush 12) 2 5 := ⟨by decide +kernel, rfl⟩
theorem d43_5 : DAt B43 5 (.if_icmp .ge 75) 3 8 := ⟨by decide +kernel, rfl⟩
theorem d43_8 : DAt B43 8 (.aload_n 0) 1 9 := ⟨by decide +kernel, rfl⟩
theorem d43_9 : DAt B43 9 (.getfield 195) 3 12 := ⟨by decide +kernel, rfl⟩
theorem d43_12 : DAt B43 12 (.iload_n 1) 1 13 := ⟨by decide +kernel, rfl⟩
theorem d43_13 : DAt B43 13 (.if_icmp .le 67) 3 16 := ⟨by decide +kernel, rfl⟩
theorem d43_16 : DAt B43 16 (.aload_n 0) 1 17 := ⟨by decide +kernel, rfl⟩
theorem d43_17 : DAt B43 17 (.getfield 195) 3 20 := ⟨by decide +kernel, rfl⟩
theorem d43_20 : DAt B43 20 (.ifCond .le 60) 3 23 := ⟨by decide +kernel, rfl⟩
theorem d43_23 : DAt B43 23 (.aload_n 0) 1 24 := ⟨by decide +kernel, rfl⟩
theorem d43_24 : DAt B43 24 (.dup) 1 25 := ⟨by decide +kernel, rfl⟩
theorem d43_25 : DAt B43 25 (.getfield 195) 3 28 := ⟨by decide +kernel, rfl⟩
theorem d43_28 : DAt B43 28 (.iconst 1) 1 29 := ⟨by decide +kernel, rfl⟩
theorem d43_29 : DAt B43 29 (.isub) 1 30 := ⟨by decide +kernel, rfl⟩
theorem d43_30 : DAt B43 30 (.putfield 195) 3 33 := ⟨by decide +kernel, rfl⟩
theorem d43_33 : DAt B43 33 (.aload_n 0) 1 34 := ⟨by decide +kernel, rfl⟩
theorem d43_34 : DAt B43 34 (.getfield 50) 3 37 := ⟨by decide +kernel, rfl⟩
theorem d43_37 : DAt B43 37 (.aload_n 0) 1 38 := ⟨by decide +kernel, rfl⟩
theorem d43_38 : DAt B43 38 (.getfield 195) 3 41 := ⟨by decide +kernel, rfl⟩
theorem d43_41 : DAt B43 41 (.iaload) 1 42 := ⟨by decide +kernel, rfl⟩
theorem d43_42 : DAt B43 42 (.istore_n 3) 1 43 := ⟨by decide +kernel, rfl⟩
theorem d43_43 : DAt B43 43 (.iconst 1) 1 44 := ⟨by decide +kernel, rfl⟩
theorem d43_44 : DAt B43 44 (.iload_n 3) 1 45 := ⟨by decide +kernel, rfl⟩
theorem d43_45 : DAt B43 45 (.ishl) 1 46 := ⟨by decide +kernel, rfl⟩
theorem d43_46 : DAt B43 46 (.istore 4) 2 48 := ⟨by decide +kernel, rfl⟩
theorem d43_48 : DAt B43 48 (.aload_n 0) 1 49 := ⟨by decide +kernel, rfl⟩
theorem d43_49 : DAt B43 49 (.dup) 1 50 := ⟨by decide +kernel, rfl⟩
theorem d43_50 : DAt B43 50 (.getfield 183) 3 53 := ⟨by decide +kernel, rfl⟩
theorem d43_53 : DAt B43 53 (.iload 4) 2 55 := ⟨by decide +kernel, rfl⟩
theorem d43_55 : DAt B43 55 (.iconst (-1)) 1 56 := ⟨by decide +kernel, rfl⟩
theorem d43_56 : DAt B43 56 (.ixor) 1 57 := ⟨by decide +kernel, rfl⟩
theorem d43_57 : DAt B43 57 (.iand) 1 58 := ⟨by decide +kernel, rfl⟩
theorem d43_58 : DAt B43 58 (.putfield 183) 3 61 := ⟨by decide +kernel, rfl⟩
theorem d43_61 : DAt B43 61 (.aload_n 0) 1 62 := ⟨by decide +kernel, rfl⟩
theorem d43_62 : DAt B43 62 (.dup) 1 63 := ⟨by decide +kernel, rfl⟩
theorem d43_63 : DAt B43 63 (.getfield 186) 3 66 := ⟨by decide +kernel, rfl⟩
theorem d43_66 : DAt B43 66 (.iload 4) 2 68 := ⟨by decide +kernel, rfl⟩
theorem d43_68 : DAt B43 68 (.iconst (-1)) 1 69 := ⟨by decide +kernel, rfl⟩
theorem d43_69 : DAt B43 69 (.ixor) 1 70 := ⟨by decide +kernel, rfl⟩
theorem d43_70 : DAt B43 70 (.iand) 1 71 := ⟨by decide +kernel, rfl⟩
theorem d43_71 : DAt B43 71 (.putfield 186) 3 74 := ⟨by decide +kernel, rfl⟩
theorem d43_74 : DAt B43 74 (.iinc 2 1) 3 77 := ⟨by decide +kernel, rfl⟩
theorem d43_77 : DAt B43 77 (.goto (-75)) 3 80 := ⟨by decide +kernel, rfl⟩
theorem d43_80 : DAt B43 80 (.return_) 1 81 := ⟨by decide +kernel, rfl⟩
def B42 : Bdy := ((⟨"XorGaussSat", "backtrack", "()Z"⟩ : MethodName), prog_1_method_44_code, 3, (some .boolean), ({ frames := 1, cells := 0, slots := 0, locals := 16 } : Room))
theorem d42_0 : DAt B42 0 (.iconst 0) 1 1 := ⟨by decide +kernel, rfl⟩
theorem d42_1 : DAt B42 1 (.istore_n 1) 1 2 := ⟨by decide +kernel, rfl⟩
theorem d42_2 : DAt B42 2 (.iload_n 1) 1 3 := ⟨by decide +kernel, rfl⟩
theorem d42_3 : DAt B42 3 (.bipush 14) 2 5 := ⟨by decide +kernel, rfl⟩
theorem d42_5 : DAt B42 5 (.if_icmp .ge 83) 3 8 := ⟨by decide +kernel, rfl⟩
theorem d42_8 : DAt B42 8 (.aload_n 0) 1 9 := ⟨by decide +kernel, rfl⟩
theorem d42_9 : DAt B42 9 (.getfield 198) 3 12 := ⟨by decide +kernel, rfl⟩
theorem d42_12 : DAt B42 12 (.ifCond .le 12) 3 15 := ⟨by decide +kernel, rfl⟩
theorem d42_15 : DAt B42 15 (.aload_n 0) 1 16 := ⟨by decide +kernel, rfl⟩
theorem d42_16 : DAt B42 16 (.getfield 198) 3 19 := ⟨by decide +kernel, rfl⟩
theorem d42_19 : DAt B42 19 (.bipush 13) 2 21 := ⟨by decide +kernel, rfl⟩
theorem d42_21 : DAt B42 21 (.if_icmp .le 5) 3 24 := ⟨by decide +kernel, rfl⟩
theorem d42_24 : DAt B42 24 (.iconst 0) 1 25 := ⟨by decide +kernel, rfl⟩
theorem d42_25 : DAt B42 25 (.ireturn) 1 26 := ⟨by decide +kernel, rfl⟩
theorem d42_26 : DAt B42 26 (.aload_n 0) 1 27 := ⟨by decide +kernel, rfl⟩
theorem d42_27 : DAt B42 27 (.getfield 198) 3 30 := ⟨by decide +kernel, rfl⟩
theorem d42_30 : DAt B42 30 (.iconst 1) 1 31 := ⟨by decide +kernel, rfl⟩
theorem d42_31 : DAt B42 31 (.isub) 1 32 := ⟨by decide +kernel, rfl⟩
theorem d42_32 : DAt B42 32 (.istore_n 2) 1 33 := ⟨by decide +kernel, rfl⟩
theorem d42_33 : DAt B42 33 (.aload_n 0) 1 34 := ⟨by decide +kernel, rfl⟩
theorem d42_34 : DAt B42 34 (.aload_n 0) 1 35 := ⟨by decide +kernel, rfl⟩
theorem d42_35 : DAt B42 35 (.getfield 56) 3 38 := ⟨by decide +kernel, rfl⟩
theorem d42_38 : DAt B42 38 (.iload_n 2) 1 39 := ⟨by decide +kernel, rfl⟩
theorem d42_39 : DAt B42 39 (.iaload) 1 40 := ⟨by decide +kernel, rfl⟩
theorem d42_40 : DAt B42 40 (.invokevirtual 204) 3 43 := ⟨by decide +kernel, rfl⟩
theorem d42_43 : DAt B42 43 (.aload_n 0) 1 44 := ⟨by decide +kernel, rfl⟩
theorem d42_44 : DAt B42 44 (.getfield 59) 3 47 := ⟨by decide +kernel, rfl⟩
theorem d42_47 : DAt B42 47 (.iload_n 2) 1 48 := ⟨by decide +kernel, rfl⟩
theorem d42_48 : DAt B42 48 (.baload) 1 49 := ⟨by decide +kernel, rfl⟩
theorem d42_49 : DAt B42 49 (.ifCond .ne 23) 3 52 := ⟨by decide +kernel, rfl⟩
theorem d42_52 : DAt B42 52 (.aload_n 0) 1 53 := ⟨by decide +kernel, rfl⟩
theorem d42_53 : DAt B42 53 (.getfield 59) 3 56 := ⟨by decide +kernel, rfl⟩
theorem d42_56 : DAt B42 56 (.iload_n 2) 1 57 := ⟨by decide +kernel, rfl⟩
theorem d42_57 : DAt B42 57 (.iconst 1) 1 58 := ⟨by decide +kernel, rfl⟩
theorem d42_58 : DAt B42 58 (.bastore) 1 59 := ⟨by decide +kernel, rfl⟩
theorem d42_59 : DAt B42 59 (.aload_n 0) 1 60 := ⟨by decide +kernel, rfl⟩
theorem d42_60 : DAt B42 60 (.aload_n 0) 1 61 := ⟨by decide +kernel, rfl⟩
theorem d42_61 : DAt B42 61 (.getfield 53) 3 64 := ⟨by decide +kernel, rfl⟩
theorem d42_64 : DAt B42 64 (.iload_n 2) 1 65 := ⟨by decide +kernel, rfl⟩
theorem d42_65 : DAt B42 65 (.iaload) 1 66 := ⟨by decide +kernel, rfl⟩
theorem d42_66 : DAt B42 66 (.iconst 1) 1 67 := ⟨by decide +kernel, rfl⟩
theorem d42_67 : DAt B42 67 (.invokevirtual 174) 3 70 := ⟨by decide +kernel, rfl⟩
theorem d42_70 : DAt B42 70 (.iconst 1) 1 71 := ⟨by decide +kernel, rfl⟩
theorem d42_71 : DAt B42 71 (.ireturn) 1 72 := ⟨by decide +kernel, rfl⟩
theorem d42_72 : DAt B42 72 (.aload_n 0) 1 73 := ⟨by decide +kernel, rfl⟩
theorem d42_73 : DAt B42 73 (.dup) 1 74 := ⟨by decide +kernel, rfl⟩
theorem d42_74 : DAt B42 74 (.getfield 198) 3 77 := ⟨by decide +kernel, rfl⟩
theorem d42_77 : DAt B42 77 (.iconst 1) 1 78 := ⟨by decide +kernel, rfl⟩
theorem d42_78 : DAt B42 78 (.isub) 1 79 := ⟨by decide +kernel, rfl⟩
theorem d42_79 : DAt B42 79 (.putfield 198) 3 82 := ⟨by decide +kernel, rfl⟩
theorem d42_82 : DAt B42 82 (.iinc 1 1) 3 85 := ⟨by decide +kernel, rfl⟩
theorem d42_85 : DAt B42 85 (.goto (-83)) 3 88 := ⟨by decide +kernel, rfl⟩
theorem d42_88 : DAt B42 88 (.iconst 0) 1 89 := ⟨by decide +kernel, rfl⟩
theorem d42_89 : DAt B42 89 (.ireturn) 1 90 := ⟨by decide +kernel, rfl⟩
def B30 : Bdy := ((⟨"XorGaussSat", "clauseHolds", "(II)Z"⟩ : MethodName), prog_1_method_22_code, 4, (some .boolean), ({ frames := 0, cells := 0, slots := 0, locals := 0 } : Room))
theorem d30_0 : DAt B30 0 (.iload_n 1) 1 1 := ⟨by decide +kernel, rfl⟩
theorem d30_1 : DAt B30 1 (.ifCond .lt 9) 3 4 := ⟨by decide +kernel, rfl⟩
theorem d30_4 : DAt B30 4 (.iload_n 1) 1 5 := ⟨by decide +kernel, rfl⟩
theorem d30_5 : DAt B30 5 (.bipush 24) 2 7 := ⟨by decide +kernel, rfl⟩
theorem d30_7 : DAt B30 7 (.if_icmp .lt 5) 3 10 := ⟨by decide +kernel, rfl⟩
theorem d30_10 : DAt B30 10 (.iconst 1) 1 11 := ⟨by decide +kernel, rfl⟩
theorem d30_11 : DAt B30 11 (.ireturn) 1 12 := ⟨by decide +kernel, rfl⟩
theorem d30_12 : DAt B30 12 (.iload_n 2) 1 13 := ⟨by decide +kernel, rfl⟩
theorem d30_13 : DAt B30 13 (.aload_n 0) 1 14 := ⟨by decide +kernel, rfl⟩
theorem d30_14 : DAt B30 14 (.getfield 17) 3 17 := ⟨by decide +kernel, rfl⟩
theorem d30_17 : DAt B30 17 (.iload_n 1) 1 18 := ⟨by decide +kernel, rfl⟩
theorem d30_18 : DAt B30 18 (.iaload) 1 19 := ⟨by decide +kernel, rfl⟩
theorem d30_19 : DAt B30 19 (.iand) 1 20 := ⟨by decide +kernel, rfl⟩
theorem d30_20 : DAt B30 20 (.iload_n 2) 1 21 := ⟨by decide +kernel, rfl⟩
theorem d30_21 : DAt B30 21 (.iconst (-1)) 1 22 := ⟨by decide +kernel, rfl⟩
theorem d30_22 : DAt B30 22 (.ixor) 1 23 := ⟨by decide +kernel, rfl⟩
theorem d30_23 : DAt B30 23 (.aload_n 0) 1 24 := ⟨by decide +kernel, rfl⟩
theorem d30_24 : DAt B30 24 (.getfield 20) 3 27 := ⟨by decide +kernel, rfl⟩
theorem d30_27 : DAt B30 27 (.iload_n 1) 1 28 := ⟨by decide +kernel, rfl⟩
theorem d30_28 : DAt B30 28 (.iaload) 1 29 := ⟨by decide +kernel, rfl⟩
theorem d30_29 : DAt B30 29 (.iand) 1 30 := ⟨by decide +kernel, rfl⟩
theorem d30_30 : DAt B30 30 (.ior) 1 31 := ⟨by decide +kernel, rfl⟩
theorem d30_31 : DAt B30 31 (.istore_n 3) 1 32 := ⟨by decide +kernel, rfl⟩
theorem d30_32 : DAt B30 32 (.iload_n 3) 1 33 := ⟨by decide +kernel, rfl⟩
theorem d30_33 : DAt B30 33 (.ifCond .eq 7) 3 36 := ⟨by decide +kernel, rfl⟩
theorem d30_36 : DAt B30 36 (.iconst 1) 1 37 := ⟨by decide +kernel, rfl⟩
theorem d30_37 : DAt B30 37 (.goto 4) 3 40 := ⟨by decide +kernel, rfl⟩
theorem d30_40 : DAt B30 40 (.iconst 0) 1 41 := ⟨by decide +kernel, rfl⟩
theorem d30_41 : DAt B30 41 (.ireturn) 1 42 := ⟨by decide +kernel, rfl⟩
def B31 : Bdy := ((⟨"XorGaussSat", "xorHolds", "(II)Z"⟩ : MethodName), prog_1_method_23_code, 4, (some .boolean), ({ frames := 1, cells := 0, slots := 0, locals := 14 } : Room))
theorem d31_0 : DAt B31 0 (.iload_n 1) 1 1 := ⟨by decide +kernel, rfl⟩
theorem d31_1 : DAt B31 1 (.ifCond .lt 9) 3 4 := ⟨by decide +kernel, rfl⟩
theorem d31_4 : DAt B31 4 (.iload_n 1) 1 5 := ⟨by decide +kernel, rfl⟩
theorem d31_5 : DAt B31 5 (.bipush 16) 2 7 := ⟨by decide +kernel, rfl⟩
theorem d31_7 : DAt B31 7 (.if_icmp .lt 5) 3 10 := ⟨by decide +kernel, rfl⟩
theorem d31_10 : DAt B31 10 (.iconst 1) 1 11 := ⟨by decide +kernel, rfl⟩
theorem d31_11 : DAt B31 11 (.ireturn) 1 12 := ⟨by decide +kernel, rfl⟩
theorem d31_12 : DAt B31 12 (.aload_n 0) 1 13 := ⟨by decide +kernel, rfl⟩
theorem d31_13 : DAt B31 13 (.iload_n 2) 1 14 := ⟨by decide +kernel, rfl⟩
theorem d31_14 : DAt B31 14 (.aload_n 0) 1 15 := ⟨by decide +kernel, rfl⟩
theorem d31_15 : DAt B31 15 (.getfield 23) 3 18 := ⟨by decide +kernel, rfl⟩
theorem d31_18 : DAt B31 18 (.iload_n 1) 1 19 := ⟨by decide +kernel, rfl⟩
theorem d31_19 : DAt B31 19 (.iaload) 1 20 := ⟨by decide +kernel, rfl⟩
theorem d31_20 : DAt B31 20 (.iand) 1 21 := ⟨by decide +kernel, rfl⟩
theorem d31_21 : DAt B31 21 (.invokevirtual 138) 3 24 := ⟨by decide +kernel, rfl⟩
theorem d31_24 : DAt B31 24 (.istore_n 3) 1 25 := ⟨by decide +kernel, rfl⟩
theorem d31_25 : DAt B31 25 (.iload_n 3) 1 26 := ⟨by decide +kernel, rfl⟩
theorem d31_26 : DAt B31 26 (.aload_n 0) 1 27 := ⟨by decide +kernel, rfl⟩
theorem d31_27 : DAt B31 27 (.getfield 26) 3 30 := ⟨by decide +kernel, rfl⟩
theorem d31_30 : DAt B31 30 (.iload_n 1) 1 31 := ⟨by decide +kernel, rfl⟩
theorem d31_31 : DAt B31 31 (.iaload) 1 32 := ⟨by decide +kernel, rfl⟩
theorem d31_32 : DAt B31 32 (.if_icmp .ne 7) 3 35 := ⟨by decide +kernel, rfl⟩
theorem d31_35 : DAt B31 35 (.iconst 1) 1 36 := ⟨by decide +kernel, rfl⟩
theorem d31_36 : DAt B31 36 (.goto 4) 3 39 := ⟨by decide +kernel, rfl⟩
theorem d31_39 : DAt B31 39 (.iconst 0) 1 40 := ⟨by decide +kernel, rfl⟩
theorem d31_40 : DAt B31 40 (.ireturn) 1 41 := ⟨by decide +kernel, rfl⟩
def B29 : Bdy := ((⟨"XorGaussSat", "violations", "(I)I"⟩ : MethodName), prog_1_method_15_code, 5, (some .int), ({ frames := 2, cells := 0, slots := 0, locals := 29 } : Room))
theorem d29_0 : DAt B29 0 (.iload_n 1) 1 1 := ⟨by decide +kernel, rfl⟩
theorem d29_1 : DAt B29 1 (.aload_n 0) 1 2 := ⟨by decide +kernel, rfl⟩
theorem d29_2 : DAt B29 2 (.getfield 66) 3 5 := ⟨by decide +kernel, rfl⟩
theorem d29_5 : DAt B29 5 (.iand) 1 6 := ⟨by decide +kernel, rfl⟩
theorem d29_6 : DAt B29 6 (.istore_n 2) 1 7 := ⟨by decide +kernel, rfl⟩
theorem d29_7 : DAt B29 7 (.iconst 0) 1 8 := ⟨by decide +kernel, rfl⟩
theorem d29_8 : DAt B29 8 (.istore_n 3) 1 9 := ⟨by decide +kernel, rfl⟩
theorem d29_9 : DAt B29 9 (.iconst 0) 1 10 := ⟨by decide +kernel, rfl⟩
theorem d29_10 : DAt B29 10 (.istore 4) 2 12 := ⟨by decide +kernel, rfl⟩
theorem d29_12 : DAt B29 12 (.iload 4) 2 14 := ⟨by decide +kernel, rfl⟩
theorem d29_14 : DAt B29 14 (.aload_n 0) 1 15 := ⟨by decide +kernel, rfl⟩
theorem d29_15 : DAt B29 15 (.getfield 78) 3 18 := ⟨by decide +kernel, rfl⟩
theorem d29_18 : DAt B29 18 (.if_icmp .ge 29) 3 21 := ⟨by decide +kernel, rfl⟩
theorem d29_21 : DAt B29 21 (.iload 4) 2 23 := ⟨by decide +kernel, rfl⟩
theorem d29_23 : DAt B29 23 (.bipush 24) 2 25 := ⟨by decide +kernel, rfl⟩
theorem d29_25 : DAt B29 25 (.if_icmp .ge 22) 3 28 := ⟨by decide +kernel, rfl⟩
theorem d29_28 : DAt B29 28 (.aload_n 0) 1 29 := ⟨by decide +kernel, rfl⟩
theorem d29_29 : DAt B29 29 (.iload 4) 2 31 := ⟨by decide +kernel, rfl⟩
theorem d29_31 : DAt B29 31 (.iload_n 2) 1 32 := ⟨by decide +kernel, rfl⟩
theorem d29_32 : DAt B29 32 (.invokevirtual 119) 3 35 := ⟨by decide +kernel, rfl⟩
theorem d29_35 : DAt B29 35 (.ifCond .ne 6) 3 38 := ⟨by decide +kernel, rfl⟩
theorem d29_38 : DAt B29 38 (.iinc 3 1) 3 41 := ⟨by decide +kernel, rfl⟩
theorem d29_41 : DAt B29 41 (.iinc 4 1) 3 44 := ⟨by decide +kernel, rfl⟩
theorem d29_44 : DAt B29 44 (.goto (-32)) 3 47 := ⟨by decide +kernel, rfl⟩
theorem d29_47 : DAt B29 47 (.iconst 0) 1 48 := ⟨by decide +kernel, rfl⟩
theorem d29_48 : DAt B29 48 (.istore 4) 2 50 := ⟨by decide +kernel, rfl⟩
theorem d29_50 : DAt B29 50 (.iload 4) 2 52 := ⟨by decide +kernel, rfl⟩
theorem d29_52 : DAt B29 52 (.aload_n 0) 1 53 := ⟨by decide +kernel, rfl⟩
theorem d29_53 : DAt B29 53 (.getfield 81) 3 56 := ⟨by decide +kernel, rfl⟩
theorem d29_56 : DAt B29 56 (.if_icmp .ge 29) 3 59 := ⟨by decide +kernel, rfl⟩
theorem d29_59 : DAt B29 59 (.iload 4) 2 61 := ⟨by decide +kernel, rfl⟩
theorem d29_61 : DAt B29 61 (.bipush 16) 2 63 := ⟨by decide +kernel, rfl⟩
theorem d29_63 : DAt B29 63 (.if_icmp .ge 22) 3 66 := ⟨by decide +kernel, rfl⟩
theorem d29_66 : DAt B29 66 (.aload_n 0) 1 67 := ⟨by decide +kernel, rfl⟩
theorem d29_67 : DAt B29 67 (.iload 4) 2 69 := ⟨by decide +kernel, rfl⟩
theorem d29_69 : DAt B29 69 (.iload_n 2) 1 70 := ⟨by decide +kernel, rfl⟩
theorem d29_70 : DAt B29 70 (.invokevirtual 122) 3 73 := ⟨by decide +kernel, rfl⟩
theorem d29_73 : DAt B29 73 (.ifCond .ne 6) 3 76 := ⟨by decide +kernel, rfl⟩
theorem d29_76 : DAt B29 76 (.iinc 3 1) 3 79 := ⟨by decide +kernel, rfl⟩
theorem d29_79 : DAt B29 79 (.iinc 4 1) 3 82 := ⟨by decide +kernel, rfl⟩
theorem d29_82 : DAt B29 82 (.goto (-32)) 3 85 := ⟨by decide +kernel, rfl⟩
theorem d29_85 : DAt B29 85 (.iload_n 3) 1 86 := ⟨by decide +kernel, rfl⟩
theorem d29_86 : DAt B29 86 (.ireturn) 1 87 := ⟨by decide +kernel, rfl⟩
def B26 : Bdy := ((⟨"XorGaussSat", "lowestUnassigned", "()I"⟩ : MethodName), prog_1_method_42_code, 2, (some .int), ({ frames := 0, cells := 0, slots := 0, locals := 0 } : Room))
theorem d26_0 : DAt B26 0 (.iconst 0) 1 1 := ⟨by decide +kernel, rfl⟩
theorem d26_1 : DAt B26 1 (.istore_n 1) 1 2 := ⟨by decide +kernel, rfl⟩
theorem d26_2 : DAt B26 2 (.iload_n 1) 1 3 := ⟨by decide +kernel, rfl⟩
theorem d26_3 : DAt B26 3 (.aload_n 0) 1 4 := ⟨by decide +kernel, rfl⟩
theorem d26_4 : DAt B26 4 (.getfield 62) 3 7 := ⟨by decide +kernel, rfl⟩
theorem d26_7 : DAt B26 7 (.if_icmp .ge 28) 3 10 := ⟨by decide +kernel, rfl⟩
theorem d26_10 : DAt B26 10 (.iload_n 1) 1 11 := ⟨by decide +kernel, rfl⟩
theorem d26_11 : DAt B26 11 (.bipush 12) 2 13 := ⟨by decide +kernel, rfl⟩
theorem d26_13 : DAt B26 13 (.if_icmp .ge 22) 3 16 := ⟨by decide +kernel, rfl⟩
theorem d26_16 : DAt B26 16 (.aload_n 0) 1 17 := ⟨by decide +kernel, rfl⟩
theorem d26_17 : DAt B26 17 (.getfield 183) 3 20 := ⟨by decide +kernel, rfl⟩
theorem d26_20 : DAt B26 20 (.iload_n 1) 1 21 := ⟨by decide +kernel, rfl⟩
theorem d26_21 : DAt B26 21 (.iushr) 1 22 := ⟨by decide +kernel, rfl⟩
theorem d26_22 : DAt B26 22 (.iconst 1) 1 23 := ⟨by decide +kernel, rfl⟩
theorem d26_23 : DAt B26 23 (.iand) 1 24 := ⟨by decide +kernel, rfl⟩
theorem d26_24 : DAt B26 24 (.ifCond .ne 5) 3 27 := ⟨by decide +kernel, rfl⟩
theorem d26_27 : DAt B26 27 (.iload_n 1) 1 28 := ⟨by decide +kernel, rfl⟩
theorem d26_28 : DAt B26 28 (.ireturn) 1 29 := ⟨by decide +kernel, rfl⟩
theorem d26_29 : DAt B26 29 (.iinc 1 1) 3 32 := ⟨by decide +kernel, rfl⟩
theorem d26_32 : DAt B26 32 (.goto (-30)) 3 35 := ⟨by decide +kernel, rfl⟩
theorem d26_35 : DAt B26 35 (.iconst (-1)) 1 36 := ⟨by decide +kernel, rfl⟩
theorem d26_36 : DAt B26 36 (.ireturn) 1 37 := ⟨by decide +kernel, rfl⟩
def B25 : Bdy := ((⟨"XorGaussSat", "decide", "()V"⟩ : MethodName), prog_1_method_43_code, 2, none, ({ frames := 1, cells := 0, slots := 0, locals := 15 } : Room))
theorem d25_0 : DAt B25 0 (.aload_n 0) 1 1 := ⟨by decide +kernel, rfl⟩
theorem d25_1 : DAt B25 1 (.invokevirtual 201) 3 4 := ⟨by decide +kernel, rfl⟩
theorem d25_4 : DAt B25 4 (.istore_n 1) 1 5 := ⟨by decide +kernel, rfl⟩
theorem d25_5 : DAt B25 5 (.iload_n 1) 1 6 := ⟨by decide +kernel, rfl⟩
theorem d25_6 : DAt B25 6 (.ifCond .lt 19) 3 9 := ⟨by decide +kernel, rfl⟩
theorem d25_9 : DAt B25 9 (.aload_n 0) 1 10 := ⟨by decide +kernel, rfl⟩
theorem d25_10 : DAt B25 10 (.getfield 198) 3 13 := ⟨by decide +kernel, rfl⟩
theorem d25_13 : DAt B25 13 (.ifCond .lt 12) 3 16 := ⟨by decide +kernel, rfl⟩
theorem d25_16 : DAt B25 16 (.aload_n 0) 1 17 := ⟨by decide +kernel, rfl⟩
theorem d25_17 : DAt B25 17 (.getfield 198) 3 20 := ⟨by decide +kernel, rfl⟩
theorem d25_20 : DAt B25 20 (.bipush 13) 2 22 := ⟨by decide +kernel, rfl⟩
theorem d25_22 : DAt B25 22 (.if_icmp .lt 4) 3 25 := ⟨by decide +kernel, rfl⟩
theorem d25_25 : DAt B25 25 (.return_) 1 26 := ⟨by decide +kernel, rfl⟩
theorem d25_26 : DAt B25 26 (.aload_n 0) 1 27 := ⟨by decide +kernel, rfl⟩
theorem d25_27 : DAt B25 27 (.getfield 56) 3 30 := ⟨by decide +kernel, rfl⟩
theorem d25_30 : DAt B25 30 (.aload_n 0) 1 31 := ⟨by decide +kernel, rfl⟩
theorem d25_31 : DAt B25 31 (.getfield 198) 3 34 := ⟨by decide +kernel, rfl⟩
theorem d25_34 : DAt B25 34 (.aload_n 0) 1 35 := ⟨by decide +kernel, rfl⟩
theorem d25_35 : DAt B25 35 (.getfield 195) 3 38 := ⟨by decide +kernel, rfl⟩
theorem d25_38 : DAt B25 38 (.iastore) 1 39 := ⟨by decide +kernel, rfl⟩
theorem d25_39 : DAt B25 39 (.aload_n 0) 1 40 := ⟨by decide +kernel, rfl⟩
theorem d25_40 : DAt B25 40 (.getfield 53) 3 43 := ⟨by decide +kernel, rfl⟩
theorem d25_43 : DAt B25 43 (.aload_n 0) 1 44 := ⟨by decide +kernel, rfl⟩
theorem d25_44 : DAt B25 44 (.getfield 198) 3 47 := ⟨by decide +kernel, rfl⟩
theorem d25_47 : DAt B25 47 (.iload_n 1) 1 48 := ⟨by decide +kernel, rfl⟩
theorem d25_48 : DAt B25 48 (.iastore) 1 49 := ⟨by decide +kernel, rfl⟩
theorem d25_49 : DAt B25 49 (.aload_n 0) 1 50 := ⟨by decide +kernel, rfl⟩
theorem d25_50 : DAt B25 50 (.getfield 59) 3 53 := ⟨by decide +kernel, rfl⟩
theorem d25_53 : DAt B25 53 (.aload_n 0) 1 54 := ⟨by decide +kernel, rfl⟩
theorem d25_54 : DAt B25 54 (.getfield 198) 3 57 := ⟨by decide +kernel, rfl⟩
theorem d25_57 : DAt B25 57 (.iconst 0) 1 58 := ⟨by decide +kernel, rfl⟩
theorem d25_58 : DAt B25 58 (.bastore) 1 59 := ⟨by decide +kernel, rfl⟩
theorem d25_59 : DAt B25 59 (.aload_n 0) 1 60 := ⟨by decide +kernel, rfl⟩
theorem d25_60 : DAt B25 60 (.dup) 1 61 := ⟨by decide +kernel, rfl⟩
theorem d25_61 : DAt B25 61 (.getfield 198) 3 64 := ⟨by decide +kernel, rfl⟩
theorem d25_64 : DAt B25 64 (.iconst 1) 1 65 := ⟨by decide +kernel, rfl⟩
theorem d25_65 : DAt B25 65 (.iadd) 1 66 := ⟨by decide +kernel, rfl⟩
theorem d25_66 : DAt B25 66 (.putfield 198) 3 69 := ⟨by decide +kernel, rfl⟩
theorem d25_69 : DAt B25 69 (.aload_n 0) 1 70 := ⟨by decide +kernel, rfl⟩
theorem d25_70 : DAt B25 70 (.iload_n 1) 1 71 := ⟨by decide +kernel, rfl⟩
theorem d25_71 : DAt B25 71 (.iconst 0) 1 72 := ⟨by decide +kernel, rfl⟩
theorem d25_72 : DAt B25 72 (.invokevirtual 174) 3 75 := ⟨by decide +kernel, rfl⟩
theorem d25_75 : DAt B25 75 (.return_) 1 76 := ⟨by decide +kernel, rfl⟩
def B10 : Bdy := ((⟨"XorGaussSat", "search", "(II)Z"⟩ : MethodName), prog_1_method_38_code, 4, (some .boolean), ({ frames := 4, cells := 0, slots := 0, locals := 62 } : Room))
theorem d10_0 : DAt B10 0 (.aload_n 0) 1 1 := ⟨by decide +kernel, rfl⟩
theorem d10_1 : DAt B10 1 (.invokevirtual 125) 3 4 := ⟨by decide +kernel, rfl⟩
theorem d10_4 : DAt B10 4 (.aload_n 0) 1 5 := ⟨by decide +kernel, rfl⟩
theorem d10_5 : DAt B10 5 (.getfield 91) 3 8 := ⟨by decide +kernel, rfl⟩
theorem d10_8 : DAt B10 8 (.ifCond .ne 5) 3 11 := ⟨by decide +kernel, rfl⟩
theorem d10_11 : DAt B10 11 (.iconst 0) 1 12 := ⟨by decide +kernel, rfl⟩
theorem d10_12 : DAt B10 12 (.ireturn) 1 13 := ⟨by decide +kernel, rfl⟩
theorem d10_13 : DAt B10 13 (.aload_n 0) 1 14 := ⟨by decide +kernel, rfl⟩
theorem d10_14 : DAt B10 14 (.invokevirtual 171) 3 17 := ⟨by decide +kernel, rfl⟩
theorem d10_17 : DAt B10 17 (.iload_n 1) 1 18 := ⟨by decide +kernel, rfl⟩
theorem d10_18 : DAt B10 18 (.ifCond .lt 9) 3 21 := ⟨by decide +kernel, rfl⟩
theorem d10_21 : DAt B10 21 (.aload_n 0) 1 22 := ⟨by decide +kernel, rfl⟩
theorem d10_22 : DAt B10 22 (.iload_n 1) 1 23 := ⟨by decide +kernel, rfl⟩
theorem d10_23 : DAt B10 23 (.iload_n 2) 1 24 := ⟨by decide +kernel, rfl⟩
theorem d10_24 : DAt B10 24 (.invokevirtual 174) 3 27 := ⟨by decide +kernel, rfl⟩
theorem d10_27 : DAt B10 27 (.iconst 0) 1 28 := ⟨by decide +kernel, rfl⟩
theorem d10_28 : DAt B10 28 (.istore_n 3) 1 29 := ⟨by decide +kernel, rfl⟩
theorem d10_29 : DAt B10 29 (.iload_n 3) 1 30 := ⟨by decide +kernel, rfl⟩
theorem d10_30 : DAt B10 30 (.sipush 16384) 3 33 := ⟨by decide +kernel, rfl⟩
theorem d10_33 : DAt B10 33 (.if_icmp .ge 75) 3 36 := ⟨by decide +kernel, rfl⟩
theorem d10_36 : DAt B10 36 (.aload_n 0) 1 37 := ⟨by decide +kernel, rfl⟩
theorem d10_37 : DAt B10 37 (.invokevirtual 177) 3 40 := ⟨by decide +kernel, rfl⟩
theorem d10_40 : DAt B10 40 (.ifCond .ne 12) 3 43 := ⟨by decide +kernel, rfl⟩
theorem d10_43 : DAt B10 43 (.aload_n 0) 1 44 := ⟨by decide +kernel, rfl⟩
theorem d10_44 : DAt B10 44 (.invokevirtual 180) 3 47 := ⟨by decide +kernel, rfl⟩
theorem d10_47 : DAt B10 47 (.ifCond .ne 55) 3 50 := ⟨by decide +kernel, rfl⟩
theorem d10_50 : DAt B10 50 (.iconst 0) 1 51 := ⟨by decide +kernel, rfl⟩
theorem d10_51 : DAt B10 51 (.ireturn) 1 52 := ⟨by decide +kernel, rfl⟩
theorem d10_52 : DAt B10 52 (.aload_n 0) 1 53 := ⟨by decide +kernel, rfl⟩
theorem d10_53 : DAt B10 53 (.getfield 183) 3 56 := ⟨by decide +kernel, rfl⟩
theorem d10_56 : DAt B10 56 (.aload_n 0) 1 57 := ⟨by decide +kernel, rfl⟩
theorem d10_57 : DAt B10 57 (.getfield 66) 3 60 := ⟨by decide +kernel, rfl⟩
theorem d10_60 : DAt B10 60 (.if_icmp .ne 38) 3 63 := ⟨by decide +kernel, rfl⟩
theorem d10_63 : DAt B10 63 (.aload_n 0) 1 64 := ⟨by decide +kernel, rfl⟩
theorem d10_64 : DAt B10 64 (.aload_n 0) 1 65 := ⟨by decide +kernel, rfl⟩
theorem d10_65 : DAt B10 65 (.getfield 186) 3 68 := ⟨by decide +kernel, rfl⟩
theorem d10_68 : DAt B10 68 (.invokevirtual 189) 3 71 := ⟨by decide +kernel, rfl⟩
theorem d10_71 : DAt B10 71 (.ifCond .ne 18) 3 74 := ⟨by decide +kernel, rfl⟩
theorem d10_74 : DAt B10 74 (.aload_n 0) 1 75 := ⟨by decide +kernel, rfl⟩
theorem d10_75 : DAt B10 75 (.aload_n 0) 1 76 := ⟨by decide +kernel, rfl⟩
theorem d10_76 : DAt B10 76 (.getfield 186) 3 79 := ⟨by decide +kernel, rfl⟩
theorem d10_79 : DAt B10 79 (.aload_n 0) 1 80 := ⟨by decide +kernel, rfl⟩
theorem d10_80 : DAt B10 80 (.getfield 66) 3 83 := ⟨by decide +kernel, rfl⟩
theorem d10_83 : DAt B10 83 (.iand) 1 84 := ⟨by decide +kernel, rfl⟩
theorem d10_84 : DAt B10 84 (.putfield 116) 3 87 := ⟨by decide +kernel, rfl⟩
theorem d10_87 : DAt B10 87 (.iconst 1) 1 88 := ⟨by decide +kernel, rfl⟩
theorem d10_88 : DAt B10 88 (.ireturn) 1 89 := ⟨by decide +kernel, rfl⟩
theorem d10_89 : DAt B10 89 (.aload_n 0) 1 90 := ⟨by decide +kernel, rfl⟩
theorem d10_90 : DAt B10 90 (.invokevirtual 180) 3 93 := ⟨by decide +kernel, rfl⟩
theorem d10_93 : DAt B10 93 (.ifCond .ne 9) 3 96 := ⟨by decide +kernel, rfl⟩
theorem d10_96 : DAt B10 96 (.iconst 0) 1 97 := ⟨by decide +kernel, rfl⟩
theorem d10_97 : DAt B10 97 (.ireturn) 1 98 := ⟨by decide +kernel, rfl⟩
theorem d10_98 : DAt B10 98 (.aload_n 0) 1 99 := ⟨by decide +kernel, rfl⟩
theorem d10_99 : DAt B10 99 (.invokevirtual 192) 3 102 := ⟨by decide +kernel, rfl⟩
theorem d10_102 : DAt B10 102 (.iinc 3 1) 3 105 := ⟨by decide +kernel, rfl⟩
theorem d10_105 : DAt B10 105 (.goto (-76)) 3 108 := ⟨by decide +kernel, rfl⟩
theorem d10_108 : DAt B10 108 (.iconst 0) 1 109 := ⟨by decide +kernel, rfl⟩
theorem d10_109 : DAt B10 109 (.ireturn) 1 110 := ⟨by decide +kernel, rfl⟩
def B9 : Bdy := ((⟨"XorGaussSat", "solve", "()I"⟩ : MethodName), prog_1_method_11_code, 1, (some .int), ({ frames := 5, cells := 0, slots := 0, locals := 77 } : Room))
theorem d9_0 : DAt B9 0 (.aload_n 0) 1 1 := ⟨by decide +kernel, rfl⟩
theorem d9_1 : DAt B9 1 (.getfield 69) 3 4 := ⟨by decide +kernel, rfl⟩
theorem d9_4 : DAt B9 4 (.iconst 1) 1 5 := ⟨by decide +kernel, rfl⟩
theorem d9_5 : DAt B9 5 (.if_icmp .eq 10) 3 8 := ⟨by decide +kernel, rfl⟩
theorem d9_8 : DAt B9 8 (.aload_n 0) 1 9 := ⟨by decide +kernel, rfl⟩
theorem d9_9 : DAt B9 9 (.getfield 69) 3 12 := ⟨by decide +kernel, rfl⟩
theorem d9_12 : DAt B9 12 (.ifCond .ne 8) 3 15 := ⟨by decide +kernel, rfl⟩
theorem d9_15 : DAt B9 15 (.aload_n 0) 1 16 := ⟨by decide +kernel, rfl⟩
theorem d9_16 : DAt B9 16 (.getfield 69) 3 19 := ⟨by decide +kernel, rfl⟩
theorem d9_19 : DAt B9 19 (.ireturn) 1 20 := ⟨by decide +kernel, rfl⟩
theorem d9_20 : DAt B9 20 (.aload_n 0) 1 21 := ⟨by decide +kernel, rfl⟩
theorem d9_21 : DAt B9 21 (.iconst (-1)) 1 22 := ⟨by decide +kernel, rfl⟩
theorem d9_22 : DAt B9 22 (.iconst 0) 1 23 := ⟨by decide +kernel, rfl⟩
theorem d9_23 : DAt B9 23 (.invokevirtual 112) 3 26 := ⟨by decide +kernel, rfl⟩
theorem d9_26 : DAt B9 26 (.ifCond .eq 24) 3 29 := ⟨by decide +kernel, rfl⟩
theorem d9_29 : DAt B9 29 (.aload_n 0) 1 30 := ⟨by decide +kernel, rfl⟩
theorem d9_30 : DAt B9 30 (.aload_n 0) 1 31 := ⟨by decide +kernel, rfl⟩
theorem d9_31 : DAt B9 31 (.getfield 116) 3 34 := ⟨by decide +kernel, rfl⟩
theorem d9_34 : DAt B9 34 (.aload_n 0) 1 35 := ⟨by decide +kernel, rfl⟩
theorem d9_35 : DAt B9 35 (.getfield 66) 3 38 := ⟨by decide +kernel, rfl⟩
theorem d9_38 : DAt B9 38 (.iand) 1 39 := ⟨by decide +kernel, rfl⟩
theorem d9_39 : DAt B9 39 (.putfield 72) 3 42 := ⟨by decide +kernel, rfl⟩
theorem d9_42 : DAt B9 42 (.aload_n 0) 1 43 := ⟨by decide +kernel, rfl⟩
theorem d9_43 : DAt B9 43 (.iconst 1) 1 44 := ⟨by decide +kernel, rfl⟩
theorem d9_44 : DAt B9 44 (.putfield 69) 3 47 := ⟨by decide +kernel, rfl⟩
theorem d9_47 : DAt B9 47 (.goto 8) 3 50 := ⟨by decide +kernel, rfl⟩
theorem d9_50 : DAt B9 50 (.aload_n 0) 1 51 := ⟨by decide +kernel, rfl⟩
theorem d9_51 : DAt B9 51 (.iconst 0) 1 52 := ⟨by decide +kernel, rfl⟩
theorem d9_52 : DAt B9 52 (.putfield 69) 3 55 := ⟨by decide +kernel, rfl⟩
theorem d9_55 : DAt B9 55 (.aload_n 0) 1 56 := ⟨by decide +kernel, rfl⟩
theorem d9_56 : DAt B9 56 (.getfield 69) 3 59 := ⟨by decide +kernel, rfl⟩
theorem d9_59 : DAt B9 59 (.ireturn) 1 60 := ⟨by decide +kernel, rfl⟩
def B32 : Bdy := ((⟨"XorGaussSat", "status", "()I"⟩ : MethodName), prog_1_method_12_code, 1, (some .int), ({ frames := 0, cells := 0, slots := 0, locals := 0 } : Room))
theorem d32_0 : DAt B32 0 (.aload_n 0) 1 1 := ⟨by decide +kernel, rfl⟩
theorem d32_1 : DAt B32 1 (.getfield 69) 3 4 := ⟨by decide +kernel, rfl⟩
theorem d32_4 : DAt B32 4 (.ireturn) 1 5 := ⟨by decide +kernel, rfl⟩
def B33 : Bdy := ((⟨"XorGaussSat", "modelBits", "()I"⟩ : MethodName), prog_1_method_14_code, 1, (some .int), ({ frames := 0, cells := 0, slots := 0, locals := 0 } : Room))
theorem d33_0 : DAt B33 0 (.aload_n 0) 1 1 := ⟨by decide +kernel, rfl⟩
theorem d33_1 : DAt B33 1 (.getfield 69) 3 4 := ⟨by decide +kernel, rfl⟩
theorem d33_4 : DAt B33 4 (.iconst 1) 1 5 := ⟨by decide +kernel, rfl⟩
theorem d33_5 : DAt B33 5 (.if_icmp .eq 5) 3 8 := ⟨by decide +kernel, rfl⟩
theorem d33_8 : DAt B33 8 (.iconst (-1)) 1 9 := ⟨by decide +kernel, rfl⟩
theorem d33_9 : DAt B33 9 (.ireturn) 1 10 := ⟨by decide +kernel, rfl⟩
theorem d33_10 : DAt B33 10 (.aload_n 0) 1 11 := ⟨by decide +kernel, rfl⟩
theorem d33_11 : DAt B33 11 (.getfield 72) 3 14 := ⟨by decide +kernel, rfl⟩
theorem d33_14 : DAt B33 14 (.aload_n 0) 1 15 := ⟨by decide +kernel, rfl⟩
theorem d33_15 : DAt B33 15 (.getfield 66) 3 18 := ⟨by decide +kernel, rfl⟩
theorem d33_18 : DAt B33 18 (.iand) 1 19 := ⟨by decide +kernel, rfl⟩
theorem d33_19 : DAt B33 19 (.ireturn) 1 20 := ⟨by decide +kernel, rfl⟩
def B34 : Bdy := ((⟨"XorGaussSat", "value", "(I)I"⟩ : MethodName), prog_1_method_13_code, 2, (some .int), ({ frames := 0, cells := 0, slots := 0, locals := 0 } : Room))
theorem d34_0 : DAt B34 0 (.iload_n 1) 1 1 := ⟨by decide +kernel, rfl⟩
theorem d34_1 : DAt B34 1 (.ifCond .lt 11) 3 4 := ⟨by decide +kernel, rfl⟩
theorem d34_4 : DAt B34 4 (.iload_n 1) 1 5 := ⟨by decide +kernel, rfl⟩
theorem d34_5 : DAt B34 5 (.aload_n 0) 1 6 := ⟨by decide +kernel, rfl⟩
theorem d34_6 : DAt B34 6 (.getfield 62) 3 9 := ⟨by decide +kernel, rfl⟩
theorem d34_9 : DAt B34 9 (.if_icmp .lt 5) 3 12 := ⟨by decide +kernel, rfl⟩
theorem d34_12 : DAt B34 12 (.iconst (-1)) 1 13 := ⟨by decide +kernel, rfl⟩
theorem d34_13 : DAt B34 13 (.ireturn) 1 14 := ⟨by decide +kernel, rfl⟩
theorem d34_14 : DAt B34 14 (.aload_n 0) 1 15 := ⟨by decide +kernel, rfl⟩
theorem d34_15 : DAt B34 15 (.getfield 69) 3 18 := ⟨by decide +kernel, rfl⟩
theorem d34_18 : DAt B34 18 (.iconst 1) 1 19 := ⟨by decide +kernel, rfl⟩
theorem d34_19 : DAt B34 19 (.if_icmp .eq 5) 3 22 := ⟨by decide +kernel, rfl⟩
theorem d34_22 : DAt B34 22 (.iconst (-1)) 1 23 := ⟨by decide +kernel, rfl⟩
theorem d34_23 : DAt B34 23 (.ireturn) 1 24 := ⟨by decide +kernel, rfl⟩
theorem d34_24 : DAt B34 24 (.aload_n 0) 1 25 := ⟨by decide +kernel, rfl⟩
theorem d34_25 : DAt B34 25 (.getfield 72) 3 28 := ⟨by decide +kernel, rfl⟩
theorem d34_28 : DAt B34 28 (.iload_n 1) 1 29 := ⟨by decide +kernel, rfl⟩
theorem d34_29 : DAt B34 29 (.iushr) 1 30 := ⟨by decide +kernel, rfl⟩
theorem d34_30 : DAt B34 30 (.iconst 1) 1 31 := ⟨by decide +kernel, rfl⟩
theorem d34_31 : DAt B34 31 (.iand) 1 32 := ⟨by decide +kernel, rfl⟩
theorem d34_32 : DAt B34 32 (.ireturn) 1 33 := ⟨by decide +kernel, rfl⟩
def B36 : Bdy := ((⟨"XorGaussSat", "echPivotMask", "()I"⟩ : MethodName), prog_1_method_35_code, 3, (some .int), ({ frames := 0, cells := 0, slots := 0, locals := 0 } : Room))
theorem d36_0 : DAt B36 0 (.iconst 0) 1 1 := ⟨by decide +kernel, rfl⟩
theorem d36_1 : DAt B36 1 (.istore_n 1) 1 2 := ⟨by decide +kernel, rfl⟩
theorem d36_2 : DAt B36 2 (.iconst 0) 1 3 := ⟨by decide +kernel, rfl⟩
theorem d36_3 : DAt B36 3 (.istore_n 2) 1 4 := ⟨by decide +kernel, rfl⟩
theorem d36_4 : DAt B36 4 (.iload_n 2) 1 5 := ⟨by decide +kernel, rfl⟩
theorem d36_5 : DAt B36 5 (.aload_n 0) 1 6 := ⟨by decide +kernel, rfl⟩
theorem d36_6 : DAt B36 6 (.getfield 94) 3 9 := ⟨by decide +kernel, rfl⟩
theorem d36_9 : DAt B36 9 (.if_icmp .ge 26) 3 12 := ⟨by decide +kernel, rfl⟩
theorem d36_12 : DAt B36 12 (.iload_n 2) 1 13 := ⟨by decide +kernel, rfl⟩
theorem d36_13 : DAt B36 13 (.bipush 16) 2 15 := ⟨by decide +kernel, rfl⟩
theorem d36_15 : DAt B36 15 (.if_icmp .ge 20) 3 18 := ⟨by decide +kernel, rfl⟩
theorem d36_18 : DAt B36 18 (.iload_n 1) 1 19 := ⟨by decide +kernel, rfl⟩
theorem d36_19 : DAt B36 19 (.iconst 1) 1 20 := ⟨by decide +kernel, rfl⟩
theorem d36_20 : DAt B36 20 (.aload_n 0) 1 21 := ⟨by decide +kernel, rfl⟩
theorem d36_21 : DAt B36 21 (.getfield 38) 3 24 := ⟨by decide +kernel, rfl⟩
theorem d36_24 : DAt B36 24 (.iload_n 2) 1 25 := ⟨by decide +kernel, rfl⟩
theorem d36_25 : DAt B36 25 (.iaload) 1 26 := ⟨by decide +kernel, rfl⟩
theorem d36_26 : DAt B36 26 (.ishl) 1 27 := ⟨by decide +kernel, rfl⟩
theorem d36_27 : DAt B36 27 (.ior) 1 28 := ⟨by decide +kernel, rfl⟩
theorem d36_28 : DAt B36 28 (.istore_n 1) 1 29 := ⟨by decide +kernel, rfl⟩
theorem d36_29 : DAt B36 29 (.iinc 2 1) 3 32 := ⟨by decide +kernel, rfl⟩
theorem d36_32 : DAt B36 32 (.goto (-28)) 3 35 := ⟨by decide +kernel, rfl⟩
theorem d36_35 : DAt B36 35 (.iload_n 1) 1 36 := ⟨by decide +kernel, rfl⟩
theorem d36_36 : DAt B36 36 (.aload_n 0) 1 37 := ⟨by decide +kernel, rfl⟩
theorem d36_37 : DAt B36 37 (.getfield 66) 3 40 := ⟨by decide +kernel, rfl⟩
theorem d36_40 : DAt B36 40 (.iand) 1 41 := ⟨by decide +kernel, rfl⟩
theorem d36_41 : DAt B36 41 (.ireturn) 1 42 := ⟨by decide +kernel, rfl⟩
def B38 : Bdy := ((⟨"XorGaussSat", "completeFromFree", "(I)I"⟩ : MethodName), prog_1_method_36_code, 7, (some .int), ({ frames := 1, cells := 0, slots := 0, locals := 15 } : Room))
theorem d38_0 : DAt B38 0 (.iload_n 1) 1 1 := ⟨by decide +kernel, rfl⟩
theorem d38_1 : DAt B38 1 (.istore_n 2) 1 2 := ⟨by decide +kernel, rfl⟩
theorem d38_2 : DAt B38 2 (.iconst 0) 1 3 := ⟨by decide +kernel, rfl⟩
theorem d38_3 : DAt B38 3 (.istore_n 3) 1 4 := ⟨by decide +kernel, rfl⟩
theorem d38_4 : DAt B38 4 (.iload_n 3) 1 5 := ⟨by decide +kernel, rfl⟩
theorem d38_5 : DAt B38 5 (.aload_n 0) 1 6 := ⟨by decide +kernel, rfl⟩
theorem d38_6 : DAt B38 6 (.getfield 94) 3 9 := ⟨by decide +kernel, rfl⟩
theorem d38_9 : DAt B38 9 (.if_icmp .ge 67) 3 12 := ⟨by decide +kernel, rfl⟩
theorem d38_12 : DAt B38 12 (.iload_n 3) 1 13 := ⟨by decide +kernel, rfl⟩
theorem d38_13 : DAt B38 13 (.bipush 16) 2 15 := ⟨by decide +kernel, rfl⟩
theorem d38_15 : DAt B38 15 (.if_icmp .ge 61) 3 18 := ⟨by decide +kernel, rfl⟩
theorem d38_18 : DAt B38 18 (.aload_n 0) 1 19 := ⟨by decide +kernel, rfl⟩
theorem d38_19 : DAt B38 19 (.getfield 38) 3 22 := ⟨by decide +kernel, rfl⟩
theorem d38_22 : DAt B38 22 (.iload_n 3) 1 23 := ⟨by decide +kernel, rfl⟩
theorem d38_23 : DAt B38 23 (.iaload) 1 24 := ⟨by decide +kernel, rfl⟩
theorem d38_24 : DAt B38 24 (.istore 4) 2 26 := ⟨by decide +kernel, rfl⟩
theorem d38_26 : DAt B38 26 (.aload_n 0) 1 27 := ⟨by decide +kernel, rfl⟩
theorem d38_27 : DAt B38 27 (.getfield 32) 3 30 := ⟨by decide +kernel, rfl⟩
theorem d38_30 : DAt B38 30 (.iload_n 3) 1 31 := ⟨by decide +kernel, rfl⟩
theorem d38_31 : DAt B38 31 (.iaload) 1 32 := ⟨by decide +kernel, rfl⟩
theorem d38_32 : DAt B38 32 (.iconst 1) 1 33 := ⟨by decide +kernel, rfl⟩
theorem d38_33 : DAt B38 33 (.iload 4) 2 35 := ⟨by decide +kernel, rfl⟩
theorem d38_35 : DAt B38 35 (.ishl) 1 36 := ⟨by decide +kernel, rfl⟩
theorem d38_36 : DAt B38 36 (.iconst (-1)) 1 37 := ⟨by decide +kernel, rfl⟩
theorem d38_37 : DAt B38 37 (.ixor) 1 38 := ⟨by decide +kernel, rfl⟩
theorem d38_38 : DAt B38 38 (.iand) 1 39 := ⟨by decide +kernel, rfl⟩
theorem d38_39 : DAt B38 39 (.istore 5) 2 41 := ⟨by decide +kernel, rfl⟩
theorem d38_41 : DAt B38 41 (.aload_n 0) 1 42 := ⟨by decide +kernel, rfl⟩
theorem d38_42 : DAt B38 42 (.getfield 35) 3 45 := ⟨by decide +kernel, rfl⟩
theorem d38_45 : DAt B38 45 (.iload_n 3) 1 46 := ⟨by decide +kernel, rfl⟩
theorem d38_46 : DAt B38 46 (.iaload) 1 47 := ⟨by decide +kernel, rfl⟩
theorem d38_47 : DAt B38 47 (.aload_n 0) 1 48 := ⟨by decide +kernel, rfl⟩
theorem d38_48 : DAt B38 48 (.iload 5) 2 50 := ⟨by decide +kernel, rfl⟩
theorem d38_50 : DAt B38 50 (.iload_n 1) 1 51 := ⟨by decide +kernel, rfl⟩
theorem d38_51 : DAt B38 51 (.iand) 1 52 := ⟨by decide +kernel, rfl⟩
theorem d38_52 : DAt B38 52 (.invokevirtual 138) 3 55 := ⟨by decide +kernel, rfl⟩
theorem d38_55 : DAt B38 55 (.ixor) 1 56 := ⟨by decide +kernel, rfl⟩
theorem d38_56 : DAt B38 56 (.istore 6) 2 58 := ⟨by decide +kernel, rfl⟩
theorem d38_58 : DAt B38 58 (.iload 6) 2 60 := ⟨by decide +kernel, rfl⟩
theorem d38_60 : DAt B38 60 (.ifCond .eq 10) 3 63 := ⟨by decide +kernel, rfl⟩
theorem d38_63 : DAt B38 63 (.iload_n 2) 1 64 := ⟨by decide +kernel, rfl⟩
theorem d38_64 : DAt B38 64 (.iconst 1) 1 65 := ⟨by decide +kernel, rfl⟩
theorem d38_65 : DAt B38 65 (.iload 4) 2 67 := ⟨by decide +kernel, rfl⟩
theorem d38_67 : DAt B38 67 (.ishl) 1 68 := ⟨by decide +kernel, rfl⟩
theorem d38_68 : DAt B38 68 (.ior) 1 69 := ⟨by decide +kernel, rfl⟩
theorem d38_69 : DAt B38 69 (.istore_n 2) 1 70 := ⟨by decide +kernel, rfl⟩
theorem d38_70 : DAt B38 70 (.iinc 3 1) 3 73 := ⟨by decide +kernel, rfl⟩
theorem d38_73 : DAt B38 73 (.goto (-69)) 3 76 := ⟨by decide +kernel, rfl⟩
theorem d38_76 : DAt B38 76 (.iload_n 2) 1 77 := ⟨by decide +kernel, rfl⟩
theorem d38_77 : DAt B38 77 (.aload_n 0) 1 78 := ⟨by decide +kernel, rfl⟩
theorem d38_78 : DAt B38 78 (.getfield 66) 3 81 := ⟨by decide +kernel, rfl⟩
theorem d38_81 : DAt B38 81 (.iand) 1 82 := ⟨by decide +kernel, rfl⟩
theorem d38_82 : DAt B38 82 (.ireturn) 1 83 := ⟨by decide +kernel, rfl⟩
def B39 : Bdy := ((⟨"XorGaussSat", "allClausesHold", "(I)Z"⟩ : MethodName), prog_1_method_24_code, 3, (some .boolean), ({ frames := 1, cells := 0, slots := 0, locals := 15 } : Room))
theorem d39_0 : DAt B39 0 (.iconst 0) 1 1 := ⟨by decide +kernel, rfl⟩
theorem d39_1 : DAt B39 1 (.istore_n 2) 1 2 := ⟨by decide +kernel, rfl⟩
theorem d39_2 : DAt B39 2 (.iload_n 2) 1 3 := ⟨by decide +kernel, rfl⟩
theorem d39_3 : DAt B39 3 (.aload_n 0) 1 4 := ⟨by decide +kernel, rfl⟩
theorem d39_4 : DAt B39 4 (.getfield 78) 3 7 := ⟨by decide +kernel, rfl⟩
theorem d39_7 : DAt B39 7 (.if_icmp .ge 26) 3 10 := ⟨by decide +kernel, rfl⟩
theorem d39_10 : DAt B39 10 (.iload_n 2) 1 11 := ⟨by decide +kernel, rfl⟩
theorem d39_11 : DAt B39 11 (.bipush 24) 2 13 := ⟨by decide +kernel, rfl⟩
theorem d39_13 : DAt B39 13 (.if_icmp .ge 20) 3 16 := ⟨by decide +kernel, rfl⟩
theorem d39_16 : DAt B39 16 (.aload_n 0) 1 17 := ⟨by decide +kernel, rfl⟩
theorem d39_17 : DAt B39 17 (.iload_n 2) 1 18 := ⟨by decide +kernel, rfl⟩
theorem d39_18 : DAt B39 18 (.iload_n 1) 1 19 := ⟨by decide +kernel, rfl⟩
theorem d39_19 : DAt B39 19 (.invokevirtual 119) 3 22 := ⟨by decide +kernel, rfl⟩
theorem d39_22 : DAt B39 22 (.ifCond .ne 5) 3 25 := ⟨by decide +kernel, rfl⟩
theorem d39_25 : DAt B39 25 (.iconst 0) 1 26 := ⟨by decide +kernel, rfl⟩
theorem d39_26 : DAt B39 26 (.ireturn) 1 27 := ⟨by decide +kernel, rfl⟩
theorem d39_27 : DAt B39 27 (.iinc 2 1) 3 30 := ⟨by decide +kernel, rfl⟩
theorem d39_30 : DAt B39 30 (.goto (-28)) 3 33 := ⟨by decide +kernel, rfl⟩
theorem d39_33 : DAt B39 33 (.iconst 1) 1 34 := ⟨by decide +kernel, rfl⟩
theorem d39_34 : DAt B39 34 (.ireturn) 1 35 := ⟨by decide +kernel, rfl⟩
def B37 : Bdy := ((⟨"XorGaussSat", "countAffinePoints", "(I)I"⟩ : MethodName), prog_1_method_37_code, 6, (some .int), ({ frames := 2, cells := 0, slots := 0, locals := 33 } : Room))
theorem d37_0 : DAt B37 0 (.iconst 0) 1 1 := ⟨by decide +kernel, rfl⟩
theorem d37_1 : DAt B37 1 (.istore_n 2) 1 2 := ⟨by decide +kernel, rfl⟩
theorem d37_2 : DAt B37 2 (.iconst 0) 1 3 := ⟨by decide +kernel, rfl⟩
theorem d37_3 : DAt B37 3 (.istore_n 3) 1 4 := ⟨by decide +kernel, rfl⟩
theorem d37_4 : DAt B37 4 (.iconst 0) 1 5 := ⟨by decide +kernel, rfl⟩
theorem d37_5 : DAt B37 5 (.istore 4) 2 7 := ⟨by decide +kernel, rfl⟩
theorem d37_7 : DAt B37 7 (.iload 4) 2 9 := ⟨by decide +kernel, rfl⟩
theorem d37_9 : DAt B37 9 (.sipush 4097) 3 12 := ⟨by decide +kernel, rfl⟩
theorem d37_12 : DAt B37 12 (.if_icmp .ge 41) 3 15 := ⟨by decide +kernel, rfl⟩
theorem d37_15 : DAt B37 15 (.aload_n 0) 1 16 := ⟨by decide +kernel, rfl⟩
theorem d37_16 : DAt B37 16 (.iload_n 3) 1 17 := ⟨by decide +kernel, rfl⟩
theorem d37_17 : DAt B37 17 (.invokevirtual 164) 3 20 := ⟨by decide +kernel, rfl⟩
theorem d37_20 : DAt B37 20 (.istore 5) 2 22 := ⟨by decide +kernel, rfl⟩
theorem d37_22 : DAt B37 22 (.aload_n 0) 1 23 := ⟨by decide +kernel, rfl⟩
theorem d37_23 : DAt B37 23 (.iload 5) 2 25 := ⟨by decide +kernel, rfl⟩
theorem d37_25 : DAt B37 25 (.invokevirtual 167) 3 28 := ⟨by decide +kernel, rfl⟩
theorem d37_28 : DAt B37 28 (.ifCond .eq 6) 3 31 := ⟨by decide +kernel, rfl⟩
theorem d37_31 : DAt B37 31 (.iinc 2 1) 3 34 := ⟨by decide +kernel, rfl⟩
theorem d37_34 : DAt B37 34 (.iload_n 3) 1 35 := ⟨by decide +kernel, rfl⟩
theorem d37_35 : DAt B37 35 (.iload_n 1) 1 36 := ⟨by decide +kernel, rfl⟩
theorem d37_36 : DAt B37 36 (.isub) 1 37 := ⟨by decide +kernel, rfl⟩
theorem d37_37 : DAt B37 37 (.iload_n 1) 1 38 := ⟨by decide +kernel, rfl⟩
theorem d37_38 : DAt B37 38 (.iand) 1 39 := ⟨by decide +kernel, rfl⟩
theorem d37_39 : DAt B37 39 (.istore_n 3) 1 40 := ⟨by decide +kernel, rfl⟩
theorem d37_40 : DAt B37 40 (.iload_n 3) 1 41 := ⟨by decide +kernel, rfl⟩
theorem d37_41 : DAt B37 41 (.ifCond .ne 6) 3 44 := ⟨by decide +kernel, rfl⟩
theorem d37_44 : DAt B37 44 (.goto 9) 3 47 := ⟨by decide +kernel, rfl⟩
theorem d37_47 : DAt B37 47 (.iinc 4 1) 3 50 := ⟨by decide +kernel, rfl⟩
theorem d37_50 : DAt B37 50 (.goto (-43)) 3 53 := ⟨by decide +kernel, rfl⟩
theorem d37_53 : DAt B37 53 (.iload_n 2) 1 54 := ⟨by decide +kernel, rfl⟩
theorem d37_54 : DAt B37 54 (.ireturn) 1 55 := ⟨by decide +kernel, rfl⟩
def B35 : Bdy := ((⟨"XorGaussSat", "countModels", "()I"⟩ : MethodName), prog_1_method_16_code, 3, (some .int), ({ frames := 3, cells := 0, slots := 0, locals := 50 } : Room))
theorem d35_0 : DAt B35 0 (.aload_n 0) 1 1 := ⟨by decide +kernel, rfl⟩
theorem d35_1 : DAt B35 1 (.invokevirtual 125) 3 4 := ⟨by decide +kernel, rfl⟩
theorem d35_4 : DAt B35 4 (.aload_n 0) 1 5 := ⟨by decide +kernel, rfl⟩
theorem d35_5 : DAt B35 5 (.getfield 91) 3 8 := ⟨by decide +kernel, rfl⟩
theorem d35_8 : DAt B35 8 (.ifCond .ne 5) 3 11 := ⟨by decide +kernel, rfl⟩
theorem d35_11 : DAt B35 11 (.iconst 0) 1 12 := ⟨by decide +kernel, rfl⟩
theorem d35_12 : DAt B35 12 (.ireturn) 1 13 := ⟨by decide +kernel, rfl⟩
theorem d35_13 : DAt B35 13 (.aload_n 0) 1 14 := ⟨by decide +kernel, rfl⟩
theorem d35_14 : DAt B35 14 (.getfield 66) 3 17 := ⟨by decide +kernel, rfl⟩
theorem d35_17 : DAt B35 17 (.aload_n 0) 1 18 := ⟨by decide +kernel, rfl⟩
theorem d35_18 : DAt B35 18 (.invokevirtual 128) 3 21 := ⟨by decide +kernel, rfl⟩
theorem d35_21 : DAt B35 21 (.iconst (-1)) 1 22 := ⟨by decide +kernel, rfl⟩
theorem d35_22 : DAt B35 22 (.ixor) 1 23 := ⟨by decide +kernel, rfl⟩
theorem d35_23 : DAt B35 23 (.iand) 1 24 := ⟨by decide +kernel, rfl⟩
theorem d35_24 : DAt B35 24 (.istore_n 1) 1 25 := ⟨by decide +kernel, rfl⟩
theorem d35_25 : DAt B35 25 (.aload_n 0) 1 26 := ⟨by decide +kernel, rfl⟩
theorem d35_26 : DAt B35 26 (.getfield 78) 3 29 := ⟨by decide +kernel, rfl⟩
theorem d35_29 : DAt B35 29 (.ifCond .ne 13) 3 32 := ⟨by decide +kernel, rfl⟩
theorem d35_32 : DAt B35 32 (.aload_n 0) 1 33 := ⟨by decide +kernel, rfl⟩
theorem d35_33 : DAt B35 33 (.iload_n 1) 1 34 := ⟨by decide +kernel, rfl⟩
theorem d35_42 : DAt B35 42 (.aload_n 0) 1 43 := ⟨by decide +kernel, rfl⟩
theorem d35_43 : DAt B35 43 (.iload_n 1) 1 44 := ⟨by decide +kernel, rfl⟩
theorem d35_44 : DAt B35 44 (.invokevirtual 135) 3 47 := ⟨by decide +kernel, rfl⟩
theorem d35_47 : DAt B35 47 (.ireturn) 1 48 := ⟨by decide +kernel, rfl⟩
def B40 : Bdy := ((⟨"XorGaussSat", "backbone", "(I)I"⟩ : MethodName), prog_1_method_17_code, 4, (some .int), ({ frames := 5, cells := 0, slots := 0, locals := 77 } : Room))
theorem d40_0 : DAt B40 0 (.iload_n 1) 1 1 := ⟨by decide +kernel, rfl⟩
theorem d40_1 : DAt B40 1 (.ifCond .lt 11) 3 4 := ⟨by decide +kernel, rfl⟩
theorem d40_4 : DAt B40 4 (.iload_n 1) 1 5 := ⟨by decide +kernel, rfl⟩
theorem d40_5 : DAt B40 5 (.aload_n 0) 1 6 := ⟨by decide +kernel, rfl⟩
theorem d40_6 : DAt B40 6 (.getfield 62) 3 9 := ⟨by decide +kernel, rfl⟩
theorem d40_9 : DAt B40 9 (.if_icmp .lt 5) 3 12 := ⟨by decide +kernel, rfl⟩
theorem d40_12 : DAt B40 12 (.iconst (-1)) 1 13 := ⟨by decide +kernel, rfl⟩
theorem d40_13 : DAt B40 13 (.ireturn) 1 14 := ⟨by decide +kernel, rfl⟩
theorem d40_14 : DAt B40 14 (.aload_n 0) 1 15 := ⟨by decide +kernel, rfl⟩
theorem d40_15 : DAt B40 15 (.getfield 69) 3 18 := ⟨by decide +kernel, rfl⟩
theorem d40_18 : DAt B40 18 (.ifCond .ne 5) 3 21 := ⟨by decide +kernel, rfl⟩
theorem d40_21 : DAt B40 21 (.iconst 3) 1 22 := ⟨by decide +kernel, rfl⟩
theorem d40_22 : DAt B40 22 (.ireturn) 1 23 := ⟨by decide +kernel, rfl⟩
theorem d40_23 : DAt B40 23 (.aload_n 0) 1 24 := ⟨by decide +kernel, rfl⟩
theorem d40_24 : DAt B40 24 (.getfield 69) 3 27 := ⟨by decide +kernel, rfl⟩
theorem d40_27 : DAt B40 27 (.iconst 1) 1 28 := ⟨by decide +kernel, rfl⟩
theorem d40_28 : DAt B40 28 (.if_icmp .ne 11) 3 31 := ⟨by decide +kernel, rfl⟩
theorem d40_31 : DAt B40 31 (.aload_n 0) 1 32 := ⟨by decide +kernel, rfl⟩
theorem d40_32 : DAt B40 32 (.getfield 72) 3 35 := ⟨by decide +kernel, rfl⟩
theorem d40_35 : DAt B40 35 (.istore_n 2) 1 36 := ⟨by decide +kernel, rfl⟩
theorem d40_36 : DAt B40 36 (.goto 19) 3 39 := ⟨by decide +kernel, rfl⟩
theorem d40_39 : DAt B40 39 (.aload_n 0) 1 40 := ⟨by decide +kernel, rfl⟩
theorem d40_40 : DAt B40 40 (.iconst (-1)) 1 41 := ⟨by decide +kernel, rfl⟩
theorem d40_41 : DAt B40 41 (.iconst 0) 1 42 := ⟨by decide +kernel, rfl⟩
theorem d40_42 : DAt B40 42 (.invokevirtual 112) 3 45 := ⟨by decide +kernel, rfl⟩
theorem d40_45 : DAt B40 45 (.ifCond .ne 5) 3 48 := ⟨by decide +kernel, rfl⟩
theorem d40_48 : DAt B40 48 (.iconst 3) 1 49 := ⟨by decide +kernel, rfl⟩
theorem d40_49 : DAt B40 49 (.ireturn) 1 50 := ⟨by decide +kernel, rfl⟩
theorem d40_50 : DAt B40 50 (.aload_n 0) 1 51 := ⟨by decide +kernel, rfl⟩
theorem d40_51 : DAt B40 51 (.getfield 116) 3 54 := ⟨by decide +kernel, rfl⟩
theorem d40_54 : DAt B40 54 (.istore_n 2) 1 55 := ⟨by decide +kernel, rfl⟩
theorem d40_55 : DAt B40 55 (.iload_n 2) 1 56 := ⟨by decide +kernel, rfl⟩
theorem d40_56 : DAt B40 56 (.iload_n 1) 1 57 := ⟨by decide +kernel, rfl⟩
theorem d40_57 : DAt B40 57 (.iushr) 1 58 := ⟨by decide +kernel, rfl⟩
theorem d40_58 : DAt B40 58 (.iconst 1) 1 59 := ⟨by decide +kernel, rfl⟩
theorem d40_59 : DAt B40 59 (.iand) 1 60 := ⟨by decide +kernel, rfl⟩
theorem d40_60 : DAt B40 60 (.istore_n 3) 1 61 := ⟨by decide +kernel, rfl⟩
theorem d40_61 : DAt B40 61 (.iload_n 1) 1 62 := ⟨by decide +kernel, rfl⟩
theorem d40_62 : DAt B40 62 (.ifCond .ne 10) 3 65 := ⟨by decide +kernel, rfl⟩
theorem d40_65 : DAt B40 65 (.iload_n 3) 1 66 := ⟨by decide +kernel, rfl⟩
theorem d40_66 : DAt B40 66 (.iconst 1) 1 67 := ⟨by decide +kernel, rfl⟩
theorem d40_67 : DAt B40 67 (.if_icmp .ne 5) 3 70 := ⟨by decide +kernel, rfl⟩
theorem d40_70 : DAt B40 70 (.iconst 1) 1 71 := ⟨by decide +kernel, rfl⟩
theorem d40_71 : DAt B40 71 (.ireturn) 1 72 := ⟨by decide +kernel, rfl⟩
theorem d40_72 : DAt B40 72 (.aload_n 0) 1 73 := ⟨by decide +kernel, rfl⟩
theorem d40_73 : DAt B40 73 (.iload_n 1) 1 74 := ⟨by decide +kernel, rfl⟩
theorem d40_74 : DAt B40 74 (.iload_n 3) 1 75 := ⟨by decide +kernel, rfl⟩
theorem d40_75 : DAt B40 75 (.iconst 1) 1 76 := ⟨by decide +kernel, rfl⟩
theorem d40_76 : DAt B40 76 (.ixor) 1 77 := ⟨by decide +kernel, rfl⟩
theorem d40_77 : DAt B40 77 (.invokevirtual 112) 3 80 := ⟨by decide +kernel, rfl⟩
theorem d40_80 : DAt B40 80 (.ifCond .eq 5) 3 83 := ⟨by decide +kernel, rfl⟩
theorem d40_83 : DAt B40 83 (.iconst 2) 1 84 := ⟨by decide +kernel, rfl⟩
theorem d40_84 : DAt B40 84 (.ireturn) 1 85 := ⟨by decide +kernel, rfl⟩
theorem d40_85 : DAt B40 85 (.iload_n 3) 1 86 := ⟨by decide +kernel, rfl⟩
theorem d40_86 : DAt B40 86 (.iconst 1) 1 87 := ⟨by decide +kernel, rfl⟩
theorem d40_87 : DAt B40 87 (.if_icmp .ne 5) 3 90 := ⟨by decide +kernel, rfl⟩
theorem d40_90 : DAt B40 90 (.iconst 1) 1 91 := ⟨by decide +kernel, rfl⟩
theorem d40_91 : DAt B40 91 (.ireturn) 1 92 := ⟨by decide +kernel, rfl⟩
theorem d40_92 : DAt B40 92 (.iconst 0) 1 93 := ⟨by decide +kernel, rfl⟩
theorem d40_93 : DAt B40 93 (.ireturn) 1 94 := ⟨by decide +kernel, rfl⟩
def B41 : Bdy := ((⟨"XorGaussSatL3", "bb", "(II)I"⟩ : MethodName), method_3_code, 2, (some .int), ({ frames := 0, cells := 0, slots := 0, locals := 0 } : Room))
theorem d41_0 : DAt B41 0 (.iload_n 0) 1 1 := ⟨by decide +kernel, rfl⟩
theorem d41_1 : DAt B41 1 (.ifCond .ne 5) 3 4 := ⟨by decide +kernel, rfl⟩
theorem d41_4 : DAt B41 4 (.iconst 3) 1 5 := ⟨by decide +kernel, rfl⟩
theorem d41_5 : DAt B41 5 (.ireturn) 1 6 := ⟨by decide +kernel, rfl⟩
theorem d41_6 : DAt B41 6 (.iload_n 1) 1 7 := ⟨by decide +kernel, rfl⟩
theorem d41_7 : DAt B41 7 (.ifCond .ne 5) 3 10 := ⟨by decide +kernel, rfl⟩
theorem d41_10 : DAt B41 10 (.iconst 0) 1 11 := ⟨by decide +kernel, rfl⟩
theorem d41_11 : DAt B41 11 (.ireturn) 1 12 := ⟨by decide +kernel, rfl⟩
theorem d41_12 : DAt B41 12 (.iload_n 1) 1 13 := ⟨by decide +kernel, rfl⟩
theorem d41_13 : DAt B41 13 (.iload_n 0) 1 14 := ⟨by decide +kernel, rfl⟩
theorem d41_14 : DAt B41 14 (.if_icmp .ne 5) 3 17 := ⟨by decide +kernel, rfl⟩
theorem d41_17 : DAt B41 17 (.iconst 1) 1 18 := ⟨by decide +kernel, rfl⟩
theorem d41_18 : DAt B41 18 (.ireturn) 1 19 := ⟨by decide +kernel, rfl⟩
theorem d41_19 : DAt B41 19 (.iconst 2) 1 20 := ⟨by decide +kernel, rfl⟩
theorem d41_20 : DAt B41 20 (.ireturn) 1 21 := ⟨by decide +kernel, rfl⟩
def B0 : Bdy := (x, code, maxLocals, ret, room_1)
theorem d0_0 : DAt B0 0 (.new 7) 3 3 := ⟨at_0, rfl⟩
theorem d0_3 : DAt B0 3 (.dup) 1 4 := ⟨at_3, rfl⟩
theorem d0_4 : DAt B0 4 (.iconst 3) 1 5 := ⟨at_4, rfl⟩
theorem d0_5 : DAt B0 5 (.invokespecial 9) 3 8 := ⟨at_5, rfl⟩
theorem d0_8 : DAt B0 8 (.astore 6) 2 10 := ⟨at_8, rfl⟩
theorem d0_10 : DAt B0 10 (.aload 6) 2 12 := ⟨at_10, rfl⟩
theorem d0_12 : DAt B0 12 (.iconst 0) 1 13 := ⟨at_12, rfl⟩
theorem d0_13 : DAt B0 13 (.iload_n 0) 1 14 := ⟨at_13, rfl⟩
theorem d0_14 : DAt B0 14 (.iconst 1) 1 15 := ⟨at_14, rfl⟩
theorem d0_15 : DAt B0 15 (.iand) 1 16 := ⟨at_15, rfl⟩
theorem d0_16 : DAt B0 16 (.ifCond .eq 7) 3 19 := ⟨at_16, rfl⟩
theorem d0_19 : DAt B0 19 (.iconst 1) 1 20 := ⟨at_19, rfl⟩
theorem d0_20 : DAt B0 20 (.goto 4) 3 23 := ⟨at_20, rfl⟩
theorem d0_23 : DAt B0 23 (.iconst 0) 1 24 := ⟨at_23, rfl⟩
theorem d0_24 : DAt B0 24 (.invokevirtual 12) 3 27 := ⟨at_24, rfl⟩
theorem d0_27 : DAt B0 27 (.iconst 1) 1 28 := ⟨at_27, rfl⟩
theorem d0_28 : DAt B0 28 (.if_icmp .ne 7) 3 31 := ⟨at_28, rfl⟩
theorem d0_31 : DAt B0 31 (.iconst 1) 1 32 := ⟨at_31, rfl⟩
theorem d0_32 : DAt B0 32 (.goto 4) 3 35 := ⟨at_32, rfl⟩
theorem d0_35 : DAt B0 35 (.iconst 0) 1 36 := ⟨at_35, rfl⟩
theorem d0_36 : DAt B0 36 (.istore 7) 2 38 := ⟨at_36, rfl⟩
theorem d0_38 : DAt B0 38 (.iload 7) 2 40 := ⟨at_38, rfl⟩
theorem d0_40 : DAt B0 40 (.aload 6) 2 42 := ⟨at_40, rfl⟩
theorem d0_42 : DAt B0 42 (.iconst 1) 1 43 := ⟨at_42, rfl⟩
theorem d0_43 : DAt B0 43 (.iload_n 0) 1 44 := ⟨at_43, rfl⟩
theorem d0_44 : DAt B0 44 (.iconst 2) 1 45 := ⟨at_44, rfl⟩
theorem d0_45 : DAt B0 45 (.iand) 1 46 := ⟨at_45, rfl⟩
theorem d0_46 : DAt B0 46 (.ifCond .eq 7) 3 49 := ⟨at_46, rfl⟩
theorem d0_49 : DAt B0 49 (.iconst 1) 1 50 := ⟨at_49, rfl⟩
theorem d0_50 : DAt B0 50 (.goto 4) 3 53 := ⟨at_50, rfl⟩
theorem d0_53 : DAt B0 53 (.iconst 0) 1 54 := ⟨at_53, rfl⟩
theorem d0_54 : DAt B0 54 (.invokevirtual 12) 3 57 := ⟨at_54, rfl⟩
theorem d0_57 : DAt B0 57 (.iconst 2) 1 58 := ⟨at_57, rfl⟩
theorem d0_58 : DAt B0 58 (.if_icmp .ne 7) 3 61 := ⟨at_58, rfl⟩
theorem d0_61 : DAt B0 61 (.iconst 1) 1 62 := ⟨at_61, rfl⟩
theorem d0_62 : DAt B0 62 (.goto 4) 3 65 := ⟨at_62, rfl⟩
theorem d0_65 : DAt B0 65 (.iconst 0) 1 66 := ⟨at_65, rfl⟩
theorem d0_66 : DAt B0 66 (.iand) 1 67 := ⟨at_66, rfl⟩
theorem d0_67 : DAt B0 67 (.istore 7) 2 69 := ⟨at_67, rfl⟩
theorem d0_69 : DAt B0 69 (.iload 7) 2 71 := ⟨at_69, rfl⟩
theorem d0_71 : DAt B0 71 (.aload 6) 2 73 := ⟨at_71, rfl⟩
theorem d0_73 : DAt B0 73 (.iconst 2) 1 74 := ⟨at_73, rfl⟩
theorem d0_74 : DAt B0 74 (.iload_n 0) 1 75 := ⟨at_74, rfl⟩
theorem d0_75 : DAt B0 75 (.iconst 4) 1 76 := ⟨at_75, rfl⟩
theorem d0_76 : DAt B0 76 (.iand) 1 77 := ⟨at_76, rfl⟩
theorem d0_77 : DAt B0 77 (.ifCond .eq 7) 3 80 := ⟨at_77, rfl⟩
theorem d0_80 : DAt B0 80 (.iconst 1) 1 81 := ⟨at_80, rfl⟩
theorem d0_81 : DAt B0 81 (.goto 4) 3 84 := ⟨at_81, rfl⟩
theorem d0_84 : DAt B0 84 (.iconst 0) 1 85 := ⟨at_84, rfl⟩
theorem d0_85 : DAt B0 85 (.invokevirtual 12) 3 88 := ⟨at_85, rfl⟩
theorem d0_88 : DAt B0 88 (.iconst 3) 1 89 := ⟨at_88, rfl⟩
theorem d0_89 : DAt B0 89 (.if_icmp .ne 7) 3 92 := ⟨at_89, rfl⟩
theorem d0_92 : DAt B0 92 (.iconst 1) 1 93 := ⟨at_92, rfl⟩
theorem d0_93 : DAt B0 93 (.goto 4) 3 96 := ⟨at_93, rfl⟩
theorem d0_96 : DAt B0 96 (.iconst 0) 1 97 := ⟨at_96, rfl⟩
theorem d0_97 : DAt B0 97 (.iand) 1 98 := ⟨at_97, rfl⟩
theorem d0_98 : DAt B0 98 (.istore 7) 2 100 := ⟨at_98, rfl⟩
theorem d0_100 : DAt B0 100 (.iload 7) 2 102 := ⟨at_100, rfl⟩
theorem d0_102 : DAt B0 102 (.aload 6) 2 104 := ⟨at_102, rfl⟩
theorem d0_104 : DAt B0 104 (.iload_n 1) 1 105 := ⟨at_104, rfl⟩
theorem d0_105 : DAt B0 105 (.iconst 1) 1 106 := ⟨at_105, rfl⟩
theorem d0_106 : DAt B0 106 (.iand) 1 107 := ⟨at_106, rfl⟩
theorem d0_107 : DAt B0 107 (.ifCond .eq 7) 3 110 := ⟨at_107, rfl⟩
theorem d0_110 : DAt B0 110 (.iconst 1) 1 111 := ⟨at_110, rfl⟩
theorem d0_111 : DAt B0 111 (.goto 4) 3 114 := ⟨at_111, rfl⟩
theorem d0_114 : DAt B0 114 (.iconst 0) 1 115 := ⟨at_114, rfl⟩
theorem d0_115 : DAt B0 115 (.invokevirtual 16) 3 118 := ⟨at_115, rfl⟩
theorem d0_118 : DAt B0 118 (.ifCond .ne 7) 3 121 := ⟨at_118, rfl⟩
theorem d0_121 : DAt B0 121 (.iconst 1) 1 122 := ⟨at_121, rfl⟩
theorem d0_122 : DAt B0 122 (.goto 4) 3 125 := ⟨at_122, rfl⟩
theorem d0_125 : DAt B0 125 (.iconst 0) 1 126 := ⟨at_125, rfl⟩
theorem d0_126 : DAt B0 126 (.iand) 1 127 := ⟨at_126, rfl⟩
theorem d0_127 : DAt B0 127 (.istore 7) 2 129 := ⟨at_127, rfl⟩
theorem d0_129 : DAt B0 129 (.iload_n 2) 1 130 := ⟨at_129, rfl⟩
theorem d0_130 : DAt B0 130 (.ifCond .lt 12) 3 133 := ⟨at_130, rfl⟩
theorem d0_133 : DAt B0 133 (.iload_n 2) 1 134 := ⟨at_133, rfl⟩
theorem d0_134 : DAt B0 134 (.iconst 3) 1 135 := ⟨at_134, rfl⟩
theorem d0_135 : DAt B0 135 (.if_icmp .ge 7) 3 138 := ⟨at_135, rfl⟩
theorem d0_138 : DAt B0 138 (.iconst 1) 1 139 := ⟨at_138, rfl⟩
theorem d0_139 : DAt B0 139 (.goto 4) 3 142 := ⟨at_139, rfl⟩
theorem d0_142 : DAt B0 142 (.iconst 0) 1 143 := ⟨at_142, rfl⟩
theorem d0_143 : DAt B0 143 (.istore 8) 2 145 := ⟨at_143, rfl⟩
theorem d0_145 : DAt B0 145 (.iload 4) 2 147 := ⟨at_145, rfl⟩
theorem d0_147 : DAt B0 147 (.ifCond .lt 13) 3 150 := ⟨at_147, rfl⟩
theorem d0_150 : DAt B0 150 (.iload 4) 2 152 := ⟨at_150, rfl⟩
theorem d0_152 : DAt B0 152 (.iconst 3) 1 153 := ⟨at_152, rfl⟩
theorem d0_153 : DAt B0 153 (.if_icmp .ge 7) 3 156 := ⟨at_153, rfl⟩
theorem d0_156 : DAt B0 156 (.iconst 1) 1 157 := ⟨at_156, rfl⟩
theorem d0_157 : DAt B0 157 (.goto 4) 3 160 := ⟨at_157, rfl⟩
theorem d0_160 : DAt B0 160 (.iconst 0) 1 161 := ⟨at_160, rfl⟩
theorem d0_161 : DAt B0 161 (.istore 9) 2 163 := ⟨at_161, rfl⟩
theorem d0_163 : DAt B0 163 (.iload 7) 2 165 := ⟨at_163, rfl⟩
theorem d0_165 : DAt B0 165 (.aload 6) 2 167 := ⟨at_165, rfl⟩
theorem d0_167 : DAt B0 167 (.iload_n 2) 1 168 := ⟨at_167, rfl⟩
theorem d0_168 : DAt B0 168 (.iload_n 3) 1 169 := ⟨at_168, rfl⟩
theorem d0_169 : DAt B0 169 (.iconst 1) 1 170 := ⟨at_169, rfl⟩
theorem d0_170 : DAt B0 170 (.iand) 1 171 := ⟨at_170, rfl⟩
theorem d0_171 : DAt B0 171 (.ifCond .eq 7) 3 174 := ⟨at_171, rfl⟩
theorem d0_174 : DAt B0 174 (.iconst 1) 1 175 := ⟨at_174, rfl⟩
theorem d0_175 : DAt B0 175 (.goto 4) 3 178 := ⟨at_175, rfl⟩
theorem d0_178 : DAt B0 178 (.iconst 0) 1 179 := ⟨at_178, rfl⟩
theorem d0_179 : DAt B0 179 (.invokevirtual 12) 3 182 := ⟨at_179, rfl⟩
theorem d0_182 : DAt B0 182 (.iload 8) 2 184 := ⟨at_182, rfl⟩
theorem d0_184 : DAt B0 184 (.ifCond .eq 7) 3 187 := ⟨at_184, rfl⟩
theorem d0_187 : DAt B0 187 (.iconst 1) 1 188 := ⟨at_187, rfl⟩
theorem d0_188 : DAt B0 188 (.goto 4) 3 191 := ⟨at_188, rfl⟩
theorem d0_191 : DAt B0 191 (.iconst (-1)) 1 192 := ⟨at_191, rfl⟩
theorem d0_192 : DAt B0 192 (.if_icmp .ne 7) 3 195 := ⟨at_192, rfl⟩
theorem d0_195 : DAt B0 195 (.iconst 1) 1 196 := ⟨at_195, rfl⟩
theorem d0_196 : DAt B0 196 (.goto 4) 3 199 := ⟨at_196, rfl⟩
theorem d0_199 : DAt B0 199 (.iconst 0) 1 200 := ⟨at_199, rfl⟩
theorem d0_200 : DAt B0 200 (.iand) 1 201 := ⟨at_200, rfl⟩
theorem d0_201 : DAt B0 201 (.istore 7) 2 203 := ⟨at_201, rfl⟩
theorem d0_203 : DAt B0 203 (.iload 7) 2 205 := ⟨at_203, rfl⟩
theorem d0_205 : DAt B0 205 (.aload 6) 2 207 := ⟨at_205, rfl⟩
theorem d0_207 : DAt B0 207 (.iload 4) 2 209 := ⟨at_207, rfl⟩
theorem d0_209 : DAt B0 209 (.iload 5) 2 211 := ⟨at_209, rfl⟩
theorem d0_211 : DAt B0 211 (.iconst 1) 1 212 := ⟨at_211, rfl⟩
theorem d0_212 : DAt B0 212 (.iand) 1 213 := ⟨at_212, rfl⟩
theorem d0_213 : DAt B0 213 (.ifCond .eq 7) 3 216 := ⟨at_213, rfl⟩
theorem d0_216 : DAt B0 216 (.iconst 1) 1 217 := ⟨at_216, rfl⟩
theorem d0_217 : DAt B0 217 (.goto 4) 3 220 := ⟨at_217, rfl⟩
theorem d0_220 : DAt B0 220 (.iconst 0) 1 221 := ⟨at_220, rfl⟩
theorem d0_221 : DAt B0 221 (.invokevirtual 12) 3 224 := ⟨at_221, rfl⟩
theorem d0_224 : DAt B0 224 (.iload 9) 2 226 := ⟨at_224, rfl⟩
theorem d0_226 : DAt B0 226 (.ifCond .eq 16) 3 229 := ⟨at_226, rfl⟩
theorem d0_229 : DAt B0 229 (.iload 8) 2 231 := ⟨at_229, rfl⟩
theorem d0_231 : DAt B0 231 (.ifCond .eq 7) 3 234 := ⟨at_231, rfl⟩
theorem d0_234 : DAt B0 234 (.iconst 2) 1 235 := ⟨at_234, rfl⟩
theorem d0_235 : DAt B0 235 (.goto 8) 3 238 := ⟨at_235, rfl⟩
theorem d0_238 : DAt B0 238 (.iconst 1) 1 239 := ⟨at_238, rfl⟩
theorem d0_239 : DAt B0 239 (.goto 4) 3 242 := ⟨at_239, rfl⟩
theorem d0_242 : DAt B0 242 (.iconst (-1)) 1 243 := ⟨at_242, rfl⟩
theorem d0_243 : DAt B0 243 (.if_icmp .ne 7) 3 246 := ⟨at_243, rfl⟩
theorem d0_246 : DAt B0 246 (.iconst 1) 1 247 := ⟨at_246, rfl⟩
theorem d0_247 : DAt B0 247 (.goto 4) 3 250 := ⟨at_247, rfl⟩
theorem d0_250 : DAt B0 250 (.iconst 0) 1 251 := ⟨at_250, rfl⟩
theorem d0_251 : DAt B0 251 (.iand) 1 252 := ⟨at_251, rfl⟩
theorem d0_252 : DAt B0 252 (.istore 7) 2 254 := ⟨at_252, rfl⟩
theorem d0_254 : DAt B0 254 (.iload 7) 2 256 := ⟨at_254, rfl⟩
theorem d0_256 : DAt B0 256 (.aload 6) 2 258 := ⟨at_256, rfl⟩
theorem d0_258 : DAt B0 258 (.invokevirtual 20) 3 261 := ⟨at_258, rfl⟩
theorem d0_261 : DAt B0 261 (.ifCond .ne 7) 3 264 := ⟨at_261, rfl⟩
theorem d0_264 : DAt B0 264 (.iconst 1) 1 265 := ⟨at_264, rfl⟩
theorem d0_265 : DAt B0 265 (.goto 4) 3 268 := ⟨at_265, rfl⟩
theorem d0_268 : DAt B0 268 (.iconst 0) 1 269 := ⟨at_268, rfl⟩
theorem d0_269 : DAt B0 269 (.iand) 1 270 := ⟨at_269, rfl⟩
theorem d0_270 : DAt B0 270 (.istore 7) 2 272 := ⟨at_270, rfl⟩
theorem d0_272 : DAt B0 272 (.iconst (-1)) 1 273 := ⟨at_272, rfl⟩
theorem d0_273 : DAt B0 273 (.istore 10) 2 275 := ⟨at_273, rfl⟩
theorem d0_275 : DAt B0 275 (.iconst 0) 1 276 := ⟨at_275, rfl⟩
theorem d0_276 : DAt B0 276 (.istore 11) 2 278 := ⟨at_276, rfl⟩
theorem d0_278 : DAt B0 278 (.iconst 0) 1 279 := ⟨at_278, rfl⟩
theorem d0_279 : DAt B0 279 (.istore 12) 2 281 := ⟨at_279, rfl⟩
theorem d0_281 : DAt B0 281 (.iconst 0) 1 282 := ⟨at_281, rfl⟩
theorem d0_282 : DAt B0 282 (.istore 13) 2 284 := ⟨at_282, rfl⟩
theorem d0_284 : DAt B0 284 (.iconst 0) 1 285 := ⟨at_284, rfl⟩
theorem d0_285 : DAt B0 285 (.istore 14) 2 287 := ⟨at_285, rfl⟩
theorem d0_287 : DAt B0 287 (.iconst 0) 1 288 := ⟨at_287, rfl⟩
theorem d0_288 : DAt B0 288 (.istore 15) 2 290 := ⟨at_288, rfl⟩
theorem d0_290 : DAt B0 290 (.iload 15) 2 292 := ⟨at_290, rfl⟩
theorem d0_292 : DAt B0 292 (.bipush 8) 2 294 := ⟨at_292, rfl⟩
theorem d0_294 : DAt B0 294 (.if_icmp .ge 161) 3 297 := ⟨at_294, rfl⟩
theorem d0_297 : DAt B0 297 (.iload 15) 2 299 := ⟨at_297, rfl⟩
theorem d0_299 : DAt B0 299 (.iconst 2) 1 300 := ⟨at_299, rfl⟩
theorem d0_300 : DAt B0 300 (.ishr) 1 301 := ⟨at_300, rfl⟩
theorem d0_301 : DAt B0 301 (.iconst 1) 1 302 := ⟨at_301, rfl⟩
theorem d0_302 : DAt B0 302 (.iand) 1 303 := ⟨at_302, rfl⟩
theorem d0_303 : DAt B0 303 (.iload 15) 2 305 := ⟨at_303, rfl⟩
theorem d0_305 : DAt B0 305 (.iconst 2) 1 306 := ⟨at_305, rfl⟩
theorem d0_306 : DAt B0 306 (.iand) 1 307 := ⟨at_306, rfl⟩
theorem d0_307 : DAt B0 307 (.ior) 1 308 := ⟨at_307, rfl⟩
theorem d0_308 : DAt B0 308 (.iload 15) 2 310 := ⟨at_308, rfl⟩
theorem d0_310 : DAt B0 310 (.iconst 1) 1 311 := ⟨at_310, rfl⟩
theorem d0_311 : DAt B0 311 (.iand) 1 312 := ⟨at_311, rfl⟩
theorem d0_312 : DAt B0 312 (.iconst 2) 1 313 := ⟨at_312, rfl⟩
theorem d0_313 : DAt B0 313 (.ishl) 1 314 := ⟨at_313, rfl⟩
theorem d0_314 : DAt B0 314 (.ior) 1 315 := ⟨at_314, rfl⟩
theorem d0_315 : DAt B0 315 (.istore 16) 2 317 := ⟨at_315, rfl⟩
theorem d0_317 : DAt B0 317 (.iload 16) 2 319 := ⟨at_317, rfl⟩
theorem d0_319 : DAt B0 319 (.iload_n 0) 1 320 := ⟨at_319, rfl⟩
theorem d0_320 : DAt B0 320 (.ixor) 1 321 := ⟨at_320, rfl⟩
theorem d0_321 : DAt B0 321 (.bipush 7) 2 323 := ⟨at_321, rfl⟩
theorem d0_323 : DAt B0 323 (.iand) 1 324 := ⟨at_323, rfl⟩
theorem d0_324 : DAt B0 324 (.istore 17) 2 326 := ⟨at_324, rfl⟩
theorem d0_326 : DAt B0 326 (.iload 17) 2 328 := ⟨at_326, rfl⟩
theorem d0_328 : DAt B0 328 (.iload 17) 2 330 := ⟨at_328, rfl⟩
theorem d0_330 : DAt B0 330 (.iconst 1) 1 331 := ⟨at_330, rfl⟩
theorem d0_331 : DAt B0 331 (.ishr) 1 332 := ⟨at_331, rfl⟩
theorem d0_332 : DAt B0 332 (.ixor) 1 333 := ⟨at_332, rfl⟩
theorem d0_333 : DAt B0 333 (.iload 17) 2 335 := ⟨at_333, rfl⟩
theorem d0_335 : DAt B0 335 (.iconst 2) 1 336 := ⟨at_335, rfl⟩
theorem d0_336 : DAt B0 336 (.ishr) 1 337 := ⟨at_336, rfl⟩
theorem d0_337 : DAt B0 337 (.ixor) 1 338 := ⟨at_337, rfl⟩
theorem d0_338 : DAt B0 338 (.iconst 1) 1 339 := ⟨at_338, rfl⟩
theorem d0_339 : DAt B0 339 (.iand) 1 340 := ⟨at_339, rfl⟩
theorem d0_340 : DAt B0 340 (.iload_n 1) 1 341 := ⟨at_340, rfl⟩
theorem d0_341 : DAt B0 341 (.iconst 1) 1 342 := ⟨at_341, rfl⟩
theorem d0_342 : DAt B0 342 (.iand) 1 343 := ⟨at_342, rfl⟩
theorem d0_343 : DAt B0 343 (.if_icmp .ne 7) 3 346 := ⟨at_343, rfl⟩
theorem d0_346 : DAt B0 346 (.iconst 1) 1 347 := ⟨at_346, rfl⟩
theorem d0_347 : DAt B0 347 (.goto 4) 3 350 := ⟨at_347, rfl⟩
theorem d0_350 : DAt B0 350 (.iconst 0) 1 351 := ⟨at_350, rfl⟩
theorem d0_351 : DAt B0 351 (.istore 18) 2 353 := ⟨at_351, rfl⟩
theorem d0_353 : DAt B0 353 (.iload 8) 2 355 := ⟨at_353, rfl⟩
theorem d0_355 : DAt B0 355 (.ifCond .eq 15) 3 358 := ⟨at_355, rfl⟩
theorem d0_358 : DAt B0 358 (.iload 16) 2 360 := ⟨at_358, rfl⟩
theorem d0_360 : DAt B0 360 (.iload_n 2) 1 361 := ⟨at_360, rfl⟩
theorem d0_361 : DAt B0 361 (.ishr) 1 362 := ⟨at_361, rfl⟩
theorem d0_362 : DAt B0 362 (.iconst 1) 1 363 := ⟨at_362, rfl⟩
theorem d0_363 : DAt B0 363 (.iand) 1 364 := ⟨at_363, rfl⟩
theorem d0_364 : DAt B0 364 (.iload_n 3) 1 365 := ⟨at_364, rfl⟩
theorem d0_365 : DAt B0 365 (.iconst 1) 1 366 := ⟨at_365, rfl⟩
theorem d0_366 : DAt B0 366 (.iand) 1 367 := ⟨at_366, rfl⟩
theorem d0_367 : DAt B0 367 (.if_icmp .ne 22) 3 370 := ⟨at_367, rfl⟩
theorem d0_370 : DAt B0 370 (.iload 9) 2 372 := ⟨at_370, rfl⟩
theorem d0_372 : DAt B0 372 (.ifCond .eq 21) 3 375 := ⟨at_372, rfl⟩
theorem d0_375 : DAt B0 375 (.iload 16) 2 377 := ⟨at_375, rfl⟩
theorem d0_377 : DAt B0 377 (.iload 4) 2 379 := ⟨at_377, rfl⟩
theorem d0_379 : DAt B0 379 (.ishr) 1 380 := ⟨at_379, rfl⟩
theorem d0_380 : DAt B0 380 (.iconst 1) 1 381 := ⟨at_380, rfl⟩
theorem d0_381 : DAt B0 381 (.iand) 1 382 := ⟨at_381, rfl⟩
theorem d0_382 : DAt B0 382 (.iload 5) 2 384 := ⟨at_382, rfl⟩
theorem d0_384 : DAt B0 384 (.iconst 1) 1 385 := ⟨at_384, rfl⟩
theorem d0_385 : DAt B0 385 (.iand) 1 386 := ⟨at_385, rfl⟩
theorem d0_386 : DAt B0 386 (.if_icmp .eq 7) 3 389 := ⟨at_386, rfl⟩
theorem d0_389 : DAt B0 389 (.iconst 1) 1 390 := ⟨at_389, rfl⟩
theorem d0_390 : DAt B0 390 (.goto 4) 3 393 := ⟨at_390, rfl⟩
theorem d0_393 : DAt B0 393 (.iconst 0) 1 394 := ⟨at_393, rfl⟩
theorem d0_394 : DAt B0 394 (.istore 19) 2 396 := ⟨at_394, rfl⟩
theorem d0_396 : DAt B0 396 (.iload 18) 2 398 := ⟨at_396, rfl⟩
theorem d0_398 : DAt B0 398 (.ifCond .eq 51) 3 401 := ⟨at_398, rfl⟩
theorem d0_401 : DAt B0 401 (.iload 19) 2 403 := ⟨at_401, rfl⟩
theorem d0_403 : DAt B0 403 (.ifCond .eq 46) 3 406 := ⟨at_403, rfl⟩
theorem d0_406 : DAt B0 406 (.iload 10) 2 408 := ⟨at_406, rfl⟩
theorem d0_408 : DAt B0 408 (.ifCond .ge 7) 3 411 := ⟨at_408, rfl⟩
theorem d0_411 : DAt B0 411 (.iload 16) 2 413 := ⟨at_411, rfl⟩
theorem d0_413 : DAt B0 413 (.istore 10) 2 415 := ⟨at_413, rfl⟩
theorem d0_415 : DAt B0 415 (.iinc 11 1) 3 418 := ⟨at_415, rfl⟩
theorem d0_418 : DAt B0 418 (.iload 12) 2 420 := ⟨at_418, rfl⟩
theorem d0_420 : DAt B0 420 (.iload 16) 2 422 := ⟨at_420, rfl⟩
theorem d0_422 : DAt B0 422 (.iconst 1) 1 423 := ⟨at_422, rfl⟩
theorem d0_423 : DAt B0 423 (.iand) 1 424 := ⟨at_423, rfl⟩
theorem d0_424 : DAt B0 424 (.iadd) 1 425 := ⟨at_424, rfl⟩
theorem d0_425 : DAt B0 425 (.istore 12) 2 427 := ⟨at_425, rfl⟩
theorem d0_427 : DAt B0 427 (.iload 13) 2 429 := ⟨at_427, rfl⟩
theorem d0_429 : DAt B0 429 (.iload 16) 2 431 := ⟨at_429, rfl⟩
theorem d0_431 : DAt B0 431 (.iconst 1) 1 432 := ⟨at_431, rfl⟩
theorem d0_432 : DAt B0 432 (.ishr) 1 433 := ⟨at_432, rfl⟩
theorem d0_433 : DAt B0 433 (.iconst 1) 1 434 := ⟨at_433, rfl⟩
theorem d0_434 : DAt B0 434 (.iand) 1 435 := ⟨at_434, rfl⟩
theorem d0_435 : DAt B0 435 (.iadd) 1 436 := ⟨at_435, rfl⟩
theorem d0_436 : DAt B0 436 (.istore 13) 2 438 := ⟨at_436, rfl⟩
theorem d0_438 : DAt B0 438 (.iload 14) 2 440 := ⟨at_438, rfl⟩
theorem d0_440 : DAt B0 440 (.iload 16) 2 442 := ⟨at_440, rfl⟩
theorem d0_442 : DAt B0 442 (.iconst 2) 1 443 := ⟨at_442, rfl⟩
theorem d0_443 : DAt B0 443 (.ishr) 1 444 := ⟨at_443, rfl⟩
theorem d0_444 : DAt B0 444 (.iconst 1) 1 445 := ⟨at_444, rfl⟩
theorem d0_445 : DAt B0 445 (.iand) 1 446 := ⟨at_445, rfl⟩
theorem d0_446 : DAt B0 446 (.iadd) 1 447 := ⟨at_446, rfl⟩
theorem d0_447 : DAt B0 447 (.istore 14) 2 449 := ⟨at_447, rfl⟩
theorem d0_449 : DAt B0 449 (.iinc 15 1) 3 452 := ⟨at_449, rfl⟩
theorem d0_452 : DAt B0 452 (.goto (-162)) 3 455 := ⟨at_452, rfl⟩
theorem d0_455 : DAt B0 455 (.aload 6) 2 457 := ⟨at_455, rfl⟩
theorem d0_457 : DAt B0 457 (.invokevirtual 24) 3 460 := ⟨at_457, rfl⟩
theorem d0_460 : DAt B0 460 (.istore 15) 2 462 := ⟨at_460, rfl⟩
theorem d0_462 : DAt B0 462 (.iload 10) 2 464 := ⟨at_462, rfl⟩
theorem d0_464 : DAt B0 464 (.ifCond .ge 78) 3 467 := ⟨at_464, rfl⟩
theorem d0_467 : DAt B0 467 (.iload 7) 2 469 := ⟨at_467, rfl⟩
theorem d0_469 : DAt B0 469 (.iload 15) 2 471 := ⟨at_469, rfl⟩
theorem d0_471 : DAt B0 471 (.ifCond .ne 7) 3 474 := ⟨at_471, rfl⟩
theorem d0_474 : DAt B0 474 (.iconst 1) 1 475 := ⟨at_474, rfl⟩
theorem d0_475 : DAt B0 475 (.goto 4) 3 478 := ⟨at_475, rfl⟩
theorem d0_478 : DAt B0 478 (.iconst 0) 1 479 := ⟨at_478, rfl⟩
theorem d0_479 : DAt B0 479 (.iand) 1 480 := ⟨at_479, rfl⟩
theorem d0_480 : DAt B0 480 (.istore 7) 2 482 := ⟨at_480, rfl⟩
theorem d0_482 : DAt B0 482 (.iload 7) 2 484 := ⟨at_482, rfl⟩
theorem d0_484 : DAt B0 484 (.aload 6) 2 486 := ⟨at_484, rfl⟩
theorem d0_486 : DAt B0 486 (.invokevirtual 27) 3 489 := ⟨at_486, rfl⟩
theorem d0_489 : DAt B0 489 (.ifCond .ne 7) 3 492 := ⟨at_489, rfl⟩
theorem d0_492 : DAt B0 492 (.iconst 1) 1 493 := ⟨at_492, rfl⟩
theorem d0_493 : DAt B0 493 (.goto 4) 3 496 := ⟨at_493, rfl⟩
theorem d0_496 : DAt B0 496 (.iconst 0) 1 497 := ⟨at_496, rfl⟩
theorem d0_497 : DAt B0 497 (.iand) 1 498 := ⟨at_497, rfl⟩
theorem d0_498 : DAt B0 498 (.istore 7) 2 500 := ⟨at_498, rfl⟩
theorem d0_500 : DAt B0 500 (.iload 7) 2 502 := ⟨at_500, rfl⟩
theorem d0_502 : DAt B0 502 (.aload 6) 2 504 := ⟨at_502, rfl⟩
theorem d0_504 : DAt B0 504 (.invokevirtual 30) 3 507 := ⟨at_504, rfl⟩
theorem d0_507 : DAt B0 507 (.iconst (-1)) 1 508 := ⟨at_507, rfl⟩
theorem d0_508 : DAt B0 508 (.if_icmp .ne 7) 3 511 := ⟨at_508, rfl⟩
theorem d0_511 : DAt B0 511 (.iconst 1) 1 512 := ⟨at_511, rfl⟩
theorem d0_512 : DAt B0 512 (.goto 4) 3 515 := ⟨at_512, rfl⟩
theorem d0_515 : DAt B0 515 (.iconst 0) 1 516 := ⟨at_515, rfl⟩
theorem d0_516 : DAt B0 516 (.iand) 1 517 := ⟨at_516, rfl⟩
theorem d0_517 : DAt B0 517 (.istore 7) 2 519 := ⟨at_517, rfl⟩
theorem d0_519 : DAt B0 519 (.iload 7) 2 521 := ⟨at_519, rfl⟩
theorem d0_521 : DAt B0 521 (.aload 6) 2 523 := ⟨at_521, rfl⟩
theorem d0_523 : DAt B0 523 (.iconst 0) 1 524 := ⟨at_523, rfl⟩
theorem d0_524 : DAt B0 524 (.invokevirtual 33) 3 527 := ⟨at_524, rfl⟩
theorem d0_527 : DAt B0 527 (.iconst (-1)) 1 528 := ⟨at_527, rfl⟩
theorem d0_528 : DAt B0 528 (.if_icmp .ne 7) 3 531 := ⟨at_528, rfl⟩
theorem d0_531 : DAt B0 531 (.iconst 1) 1 532 := ⟨at_531, rfl⟩
theorem d0_532 : DAt B0 532 (.goto 4) 3 535 := ⟨at_532, rfl⟩
theorem d0_535 : DAt B0 535 (.iconst 0) 1 536 := ⟨at_535, rfl⟩
theorem d0_536 : DAt B0 536 (.iand) 1 537 := ⟨at_536, rfl⟩
theorem d0_537 : DAt B0 537 (.istore 7) 2 539 := ⟨at_537, rfl⟩
theorem d0_539 : DAt B0 539 (.goto 131) 3 542 := ⟨at_539, rfl⟩
theorem d0_542 : DAt B0 542 (.iload 7) 2 544 := ⟨at_542, rfl⟩
theorem d0_544 : DAt B0 544 (.iload 15) 2 546 := ⟨at_544, rfl⟩
theorem d0_546 : DAt B0 546 (.iconst 1) 1 547 := ⟨at_546, rfl⟩
theorem d0_547 : DAt B0 547 (.if_icmp .ne 7) 3 550 := ⟨at_547, rfl⟩
theorem d0_550 : DAt B0 550 (.iconst 1) 1 551 := ⟨at_550, rfl⟩
theorem d0_551 : DAt B0 551 (.goto 4) 3 554 := ⟨at_551, rfl⟩
theorem d0_554 : DAt B0 554 (.iconst 0) 1 555 := ⟨at_554, rfl⟩
theorem d0_555 : DAt B0 555 (.iand) 1 556 := ⟨at_555, rfl⟩
theorem d0_556 : DAt B0 556 (.istore 7) 2 558 := ⟨at_556, rfl⟩
theorem d0_558 : DAt B0 558 (.iload 7) 2 560 := ⟨at_558, rfl⟩
theorem d0_560 : DAt B0 560 (.aload 6) 2 562 := ⟨at_560, rfl⟩
theorem d0_562 : DAt B0 562 (.invokevirtual 27) 3 565 := ⟨at_562, rfl⟩
theorem d0_565 : DAt B0 565 (.iconst 1) 1 566 := ⟨at_565, rfl⟩
theorem d0_566 : DAt B0 566 (.if_icmp .ne 7) 3 569 := ⟨at_566, rfl⟩
theorem d0_569 : DAt B0 569 (.iconst 1) 1 570 := ⟨at_569, rfl⟩
theorem d0_570 : DAt B0 570 (.goto 4) 3 573 := ⟨at_570, rfl⟩
theorem d0_573 : DAt B0 573 (.iconst 0) 1 574 := ⟨at_573, rfl⟩
theorem d0_574 : DAt B0 574 (.iand) 1 575 := ⟨at_574, rfl⟩
theorem d0_575 : DAt B0 575 (.istore 7) 2 577 := ⟨at_575, rfl⟩
theorem d0_577 : DAt B0 577 (.iload 7) 2 579 := ⟨at_577, rfl⟩
theorem d0_579 : DAt B0 579 (.aload 6) 2 581 := ⟨at_579, rfl⟩
theorem d0_581 : DAt B0 581 (.invokevirtual 30) 3 584 := ⟨at_581, rfl⟩
theorem d0_584 : DAt B0 584 (.iload 10) 2 586 := ⟨at_584, rfl⟩
theorem d0_586 : DAt B0 586 (.if_icmp .ne 7) 3 589 := ⟨at_586, rfl⟩
theorem d0_589 : DAt B0 589 (.iconst 1) 1 590 := ⟨at_589, rfl⟩
theorem d0_590 : DAt B0 590 (.goto 4) 3 593 := ⟨at_590, rfl⟩
theorem d0_593 : DAt B0 593 (.iconst 0) 1 594 := ⟨at_593, rfl⟩
theorem d0_594 : DAt B0 594 (.iand) 1 595 := ⟨at_594, rfl⟩
theorem d0_595 : DAt B0 595 (.istore 7) 2 597 := ⟨at_595, rfl⟩
theorem d0_597 : DAt B0 597 (.iload 7) 2 599 := ⟨at_597, rfl⟩
theorem d0_599 : DAt B0 599 (.aload 6) 2 601 := ⟨at_599, rfl⟩
theorem d0_601 : DAt B0 601 (.iconst 0) 1 602 := ⟨at_601, rfl⟩
theorem d0_602 : DAt B0 602 (.invokevirtual 33) 3 605 := ⟨at_602, rfl⟩
theorem d0_605 : DAt B0 605 (.iload 10) 2 607 := ⟨at_605, rfl⟩
theorem d0_607 : DAt B0 607 (.iconst 1) 1 608 := ⟨at_607, rfl⟩
theorem d0_608 : DAt B0 608 (.iand) 1 609 := ⟨at_608, rfl⟩
theorem d0_609 : DAt B0 609 (.if_icmp .ne 7) 3 612 := ⟨at_609, rfl⟩
theorem d0_612 : DAt B0 612 (.iconst 1) 1 613 := ⟨at_612, rfl⟩
theorem d0_613 : DAt B0 613 (.goto 4) 3 616 := ⟨at_613, rfl⟩
theorem d0_616 : DAt B0 616 (.iconst 0) 1 617 := ⟨at_616, rfl⟩
theorem d0_617 : DAt B0 617 (.iand) 1 618 := ⟨at_617, rfl⟩
theorem d0_618 : DAt B0 618 (.istore 7) 2 620 := ⟨at_618, rfl⟩
theorem d0_620 : DAt B0 620 (.iload 7) 2 622 := ⟨at_620, rfl⟩
theorem d0_622 : DAt B0 622 (.aload 6) 2 624 := ⟨at_622, rfl⟩
theorem d0_624 : DAt B0 624 (.iconst 1) 1 625 := ⟨at_624, rfl⟩
theorem d0_625 : DAt B0 625 (.invokevirtual 33) 3 628 := ⟨at_625, rfl⟩
theorem d0_628 : DAt B0 628 (.iload 10) 2 630 := ⟨at_628, rfl⟩
theorem d0_630 : DAt B0 630 (.iconst 1) 1 631 := ⟨at_630, rfl⟩
theorem d0_631 : DAt B0 631 (.ishr) 1 632 := ⟨at_631, rfl⟩
theorem d0_632 : DAt B0 632 (.iconst 1) 1 633 := ⟨at_632, rfl⟩
theorem d0_633 : DAt B0 633 (.iand) 1 634 := ⟨at_633, rfl⟩
theorem d0_634 : DAt B0 634 (.if_icmp .ne 7) 3 637 := ⟨at_634, rfl⟩
theorem d0_637 : DAt B0 637 (.iconst 1) 1 638 := ⟨at_637, rfl⟩
theorem d0_638 : DAt B0 638 (.goto 4) 3 641 := ⟨at_638, rfl⟩
theorem d0_641 : DAt B0 641 (.iconst 0) 1 642 := ⟨at_641, rfl⟩
theorem d0_642 : DAt B0 642 (.iand) 1 643 := ⟨at_642, rfl⟩
theorem d0_643 : DAt B0 643 (.istore 7) 2 645 := ⟨at_643, rfl⟩
theorem d0_645 : DAt B0 645 (.iload 7) 2 647 := ⟨at_645, rfl⟩
theorem d0_647 : DAt B0 647 (.aload 6) 2 649 := ⟨at_647, rfl⟩
theorem d0_649 : DAt B0 649 (.iconst 2) 1 650 := ⟨at_649, rfl⟩
theorem d0_650 : DAt B0 650 (.invokevirtual 33) 3 653 := ⟨at_650, rfl⟩
theorem d0_653 : DAt B0 653 (.iload 10) 2 655 := ⟨at_653, rfl⟩
theorem d0_655 : DAt B0 655 (.iconst 2) 1 656 := ⟨at_655, rfl⟩
theorem d0_656 : DAt B0 656 (.ishr) 1 657 := ⟨at_656, rfl⟩
theorem d0_657 : DAt B0 657 (.iconst 1) 1 658 := ⟨at_657, rfl⟩
theorem d0_658 : DAt B0 658 (.iand) 1 659 := ⟨at_658, rfl⟩
theorem d0_659 : DAt B0 659 (.if_icmp .ne 7) 3 662 := ⟨at_659, rfl⟩
theorem d0_662 : DAt B0 662 (.iconst 1) 1 663 := ⟨at_662, rfl⟩
theorem d0_663 : DAt B0 663 (.goto 4) 3 666 := ⟨at_663, rfl⟩
theorem d0_666 : DAt B0 666 (.iconst 0) 1 667 := ⟨at_666, rfl⟩
theorem d0_667 : DAt B0 667 (.iand) 1 668 := ⟨at_667, rfl⟩
theorem d0_668 : DAt B0 668 (.istore 7) 2 670 := ⟨at_668, rfl⟩
theorem d0_670 : DAt B0 670 (.iload 7) 2 672 := ⟨at_670, rfl⟩
theorem d0_672 : DAt B0 672 (.aload 6) 2 674 := ⟨at_672, rfl⟩
theorem d0_674 : DAt B0 674 (.invokevirtual 37) 3 677 := ⟨at_674, rfl⟩
theorem d0_677 : DAt B0 677 (.iload 11) 2 679 := ⟨at_677, rfl⟩
theorem d0_679 : DAt B0 679 (.if_icmp .ne 7) 3 682 := ⟨at_679, rfl⟩
theorem d0_682 : DAt B0 682 (.iconst 1) 1 683 := ⟨at_682, rfl⟩
theorem d0_683 : DAt B0 683 (.goto 4) 3 686 := ⟨at_683, rfl⟩
theorem d0_686 : DAt B0 686 (.iconst 0) 1 687 := ⟨at_686, rfl⟩
theorem d0_687 : DAt B0 687 (.iand) 1 688 := ⟨at_687, rfl⟩
theorem d0_688 : DAt B0 688 (.istore 7) 2 690 := ⟨at_688, rfl⟩
theorem d0_690 : DAt B0 690 (.iload 7) 2 692 := ⟨at_690, rfl⟩
theorem d0_692 : DAt B0 692 (.aload 6) 2 694 := ⟨at_692, rfl⟩
theorem d0_694 : DAt B0 694 (.iconst 0) 1 695 := ⟨at_694, rfl⟩
theorem d0_695 : DAt B0 695 (.invokevirtual 40) 3 698 := ⟨at_695, rfl⟩
theorem d0_698 : DAt B0 698 (.iload 11) 2 700 := ⟨at_698, rfl⟩
theorem d0_700 : DAt B0 700 (.iload 12) 2 702 := ⟨at_700, rfl⟩
theorem d0_702 : DAt B0 702 (.invokestatic 43) 3 705 := ⟨at_702, rfl⟩
theorem d0_705 : DAt B0 705 (.if_icmp .ne 7) 3 708 := ⟨at_705, rfl⟩
theorem d0_708 : DAt B0 708 (.iconst 1) 1 709 := ⟨at_708, rfl⟩
theorem d0_709 : DAt B0 709 (.goto 4) 3 712 := ⟨at_709, rfl⟩
theorem d0_712 : DAt B0 712 (.iconst 0) 1 713 := ⟨at_712, rfl⟩
theorem d0_713 : DAt B0 713 (.iand) 1 714 := ⟨at_713, rfl⟩
theorem d0_714 : DAt B0 714 (.istore 7) 2 716 := ⟨at_714, rfl⟩
theorem d0_716 : DAt B0 716 (.iload 7) 2 718 := ⟨at_716, rfl⟩
theorem d0_718 : DAt B0 718 (.aload 6) 2 720 := ⟨at_718, rfl⟩
theorem d0_720 : DAt B0 720 (.iconst 1) 1 721 := ⟨at_720, rfl⟩
theorem d0_721 : DAt B0 721 (.invokevirtual 40) 3 724 := ⟨at_721, rfl⟩
theorem d0_724 : DAt B0 724 (.iload 11) 2 726 := ⟨at_724, rfl⟩
theorem d0_726 : DAt B0 726 (.iload 13) 2 728 := ⟨at_726, rfl⟩
theorem d0_728 : DAt B0 728 (.invokestatic 43) 3 731 := ⟨at_728, rfl⟩
theorem d0_731 : DAt B0 731 (.if_icmp .ne 7) 3 734 := ⟨at_731, rfl⟩
theorem d0_734 : DAt B0 734 (.iconst 1) 1 735 := ⟨at_734, rfl⟩
theorem d0_735 : DAt B0 735 (.goto 4) 3 738 := ⟨at_735, rfl⟩
theorem d0_738 : DAt B0 738 (.iconst 0) 1 739 := ⟨at_738, rfl⟩
theorem d0_739 : DAt B0 739 (.iand) 1 740 := ⟨at_739, rfl⟩
theorem d0_740 : DAt B0 740 (.istore 7) 2 742 := ⟨at_740, rfl⟩
theorem d0_742 : DAt B0 742 (.iload 7) 2 744 := ⟨at_742, rfl⟩
theorem d0_744 : DAt B0 744 (.aload 6) 2 746 := ⟨at_744, rfl⟩
theorem d0_746 : DAt B0 746 (.iconst 2) 1 747 := ⟨at_746, rfl⟩
theorem d0_747 : DAt B0 747 (.invokevirtual 40) 3 750 := ⟨at_747, rfl⟩
theorem d0_750 : DAt B0 750 (.iload 11) 2 752 := ⟨at_750, rfl⟩
theorem d0_752 : DAt B0 752 (.iload 14) 2 754 := ⟨at_752, rfl⟩
theorem d0_754 : DAt B0 754 (.invokestatic 43) 3 757 := ⟨at_754, rfl⟩
theorem d0_757 : DAt B0 757 (.if_icmp .ne 7) 3 760 := ⟨at_757, rfl⟩
theorem d0_760 : DAt B0 760 (.iconst 1) 1 761 := ⟨at_760, rfl⟩
theorem d0_761 : DAt B0 761 (.goto 4) 3 764 := ⟨at_761, rfl⟩
theorem d0_764 : DAt B0 764 (.iconst 0) 1 765 := ⟨at_764, rfl⟩
theorem d0_765 : DAt B0 765 (.iand) 1 766 := ⟨at_765, rfl⟩
theorem d0_766 : DAt B0 766 (.istore 7) 2 768 := ⟨at_766, rfl⟩
theorem d0_768 : DAt B0 768 (.iload 7) 2 770 := ⟨at_768, rfl⟩
theorem d0_770 : DAt B0 770 (.ireturn) 1 771 := ⟨at_770, rfl⟩
theorem ar1 : arity B1 1 := ⟨[.int], none, by decide +kernel, rfl⟩
theorem ar2 : arity B2 2 := ⟨[.int, .boolean], some .int, by decide +kernel, rfl⟩
theorem ar3 : arity B3 1 := ⟨[.boolean], some .int, by decide +kernel, rfl⟩
theorem ar4 : arity B4 0 := ⟨[], some .int, by decide +kernel, rfl⟩
theorem ar5 : arity B5 0 := ⟨[], some .int, by decide +kernel, rfl⟩
theorem ar6 : arity B6 1 := ⟨[.int], none, by decide +kernel, rfl⟩
theorem ar7 : arity B7 0 := ⟨[], some .int, by decide +kernel, rfl⟩
theorem ar8 : arity B8 1 := ⟨[.boolean], some .int, by decide +kernel, rfl⟩
theorem ar9 : arity B9 0 := ⟨[], some .int, by decide +kernel, rfl⟩
theorem ar10 : arity B10 2 := ⟨[.int, .int], some .boolean, by decide +kernel, rfl⟩
theorem ar11 : arity B11 0 := ⟨[], none, by decide +kernel, rfl⟩
theorem ar12 : arity B12 0 := ⟨[], none, by decide +kernel, rfl⟩
theorem ar13 : arity B13 1 := ⟨[.int], some .int, by decide +kernel, rfl⟩
theorem ar14 : arity B14 2 := ⟨[.int, .int], none, by decide +kernel, rfl⟩
theorem ar15 : arity B15 2 := ⟨[.int, .int], none, by decide +kernel, rfl⟩
theorem ar16 : arity B16 0 := ⟨[], some .boolean, by decide +kernel, rfl⟩
theorem ar17 : arity B17 0 := ⟨[], none, by decide +kernel, rfl⟩
theorem ar18 : arity B18 0 := ⟨[], some .boolean, by decide +kernel, rfl⟩
theorem ar19 : arity B19 0 := ⟨[], some .boolean, by decide +kernel, rfl⟩
theorem ar20 : arity B20 1 := ⟨[.int], some .boolean, by decide +kernel, rfl⟩
theorem ar21 : arity B21 1 := ⟨[.int], some .boolean, by decide +kernel, rfl⟩
theorem ar22 : arity B22 0 := ⟨[], some .boolean, by decide +kernel, rfl⟩
theorem ar23 : arity B23 0 := ⟨[], none, by decide +kernel, rfl⟩
theorem ar24 : arity B24 1 := ⟨[.int], some .int, by decide +kernel, rfl⟩
theorem ar25 : arity B25 0 := ⟨[], none, by decide +kernel, rfl⟩
theorem ar26 : arity B26 0 := ⟨[], some .int, by decide +kernel, rfl⟩
theorem ar27 : arity B27 2 := ⟨[.int, .int], none, by decide +kernel, rfl⟩
theorem ar28 : arity B28 1 := ⟨[.int], some .int, by decide +kernel, rfl⟩
theorem ar29 : arity B29 1 := ⟨[.int], some .int, by decide +kernel, rfl⟩
theorem ar30 : arity B30 2 := ⟨[.int, .int], some .boolean, by decide +kernel, rfl⟩
theorem ar31 : arity B31 2 := ⟨[.int, .int], some .boolean, by decide +kernel, rfl⟩
theorem ar32 : arity B32 0 := ⟨[], some .int, by decide +kernel, rfl⟩
theorem ar33 : arity B33 0 := ⟨[], some .int, by decide +kernel, rfl⟩
theorem ar34 : arity B34 1 := ⟨[.int], some .int, by decide +kernel, rfl⟩
theorem ar35 : arity B35 0 := ⟨[], some .int, by decide +kernel, rfl⟩
theorem ar36 : arity B36 0 := ⟨[], some .int, by decide +kernel, rfl⟩
theorem ar37 : arity B37 1 := ⟨[.int], some .int, by decide +kernel, rfl⟩
theorem ar38 : arity B38 1 := ⟨[.int], some .int, by decide +kernel, rfl⟩
theorem ar39 : arity B39 1 := ⟨[.int], some .boolean, by decide +kernel, rfl⟩
theorem ar40 : arity B40 1 := ⟨[.int], some .int, by decide +kernel, rfl⟩
theorem ar41 : arity B41 2 := ⟨[.int, .int], some .int, by decide +kernel, rfl⟩
theorem ar42 : arity B42 0 := ⟨[], some .boolean, by decide +kernel, rfl⟩
theorem ar43 : arity B43 1 := ⟨[.int], none, by decide +kernel, rfl⟩
theorem cw1 : code_w B1 := ⟨mem1 5 rfl, mem1 2 rfl, by decide⟩
theorem cw2 : code_w B2 := ⟨mem1 71 rfl, mem1 2 rfl, by decide⟩
theorem cw3 : code_w B3 := ⟨mem1 76 rfl, mem1 2 rfl, by decide⟩
theorem cw4 : code_w B4 := ⟨mem1 80 rfl, mem1 2 rfl, by decide⟩
theorem cw5 : code_w B5 := ⟨mem1 84 rfl, mem1 2 rfl, by decide⟩
theorem cw6 : code_w B6 := ⟨mem1 88 rfl, mem1 2 rfl, by decide⟩
theorem cw7 : code_w B7 := ⟨mem1 93 rfl, mem1 2 rfl, by decide⟩
theorem cw8 : code_w B8 := ⟨mem1 97 rfl, mem1 2 rfl, by decide⟩
theorem cw9 : code_w B9 := ⟨mem1 102 rfl, mem1 2 rfl, by decide⟩
theorem cw10 : code_w B10 := ⟨mem1 106 rfl, mem1 2 rfl, by decide⟩
theorem cw11 : code_w B11 := ⟨mem1 110 rfl, mem1 2 rfl, by decide⟩
theorem cw12 : code_w B12 := ⟨mem1 116 rfl, mem1 2 rfl, by decide⟩
theorem cw13 : code_w B13 := ⟨mem1 122 rfl, mem1 2 rfl, by decide⟩
theorem cw14 : code_w B14 := ⟨mem1 126 rfl, mem1 2 rfl, by decide⟩
theorem cw15 : code_w B15 := ⟨mem1 130 rfl, mem1 2 rfl, by decide⟩
theorem cw16 : code_w B16 := ⟨mem1 134 rfl, mem1 2 rfl, by decide⟩
theorem cw17 : code_w B17 := ⟨mem1 138 rfl, mem1 2 rfl, by decide⟩
theorem cw18 : code_w B18 := ⟨mem1 152 rfl, mem1 2 rfl, by decide⟩
theorem cw19 : code_w B19 := ⟨mem1 156 rfl, mem1 2 rfl, by decide⟩
theorem cw20 : code_w B20 := ⟨mem1 160 rfl, mem1 2 rfl, by decide⟩
theorem cw21 : code_w B21 := ⟨mem1 164 rfl, mem1 2 rfl, by decide⟩
theorem cw22 : code_w B22 := ⟨mem1 168 rfl, mem1 2 rfl, by decide⟩
theorem cw23 : code_w B23 := ⟨mem1 172 rfl, mem1 2 rfl, by decide⟩
theorem cw24 : code_w B24 := ⟨mem1 176 rfl, mem1 2 rfl, by decide⟩
theorem cw25 : code_w B25 := ⟨mem1 180 rfl, mem1 2 rfl, by decide⟩
theorem cw26 : code_w B26 := ⟨mem1 184 rfl, mem1 2 rfl, by decide⟩
theorem cw27 : code_w B27 := ⟨mem1 188 rfl, mem1 2 rfl, by decide⟩
theorem cw28 : code_w B28 := ⟨mem1 192 rfl, mem1 2 rfl, by decide⟩
theorem cw29 : code_w B29 := ⟨mem1 197 rfl, mem1 2 rfl, by decide⟩
theorem cw30 : code_w B30 := ⟨mem1 201 rfl, mem1 2 rfl, by decide⟩
theorem cw31 : code_w B31 := ⟨mem1 205 rfl, mem1 2 rfl, by decide⟩
theorem cw32 : code_w B32 := ⟨mem1 210 rfl, mem1 2 rfl, by decide⟩
theorem cw33 : code_w B33 := ⟨mem1 215 rfl, mem1 2 rfl, by decide⟩
theorem cw34 : code_w B34 := ⟨mem1 220 rfl, mem1 2 rfl, by decide⟩
theorem cw35 : code_w B35 := ⟨mem1 225 rfl, mem1 2 rfl, by decide⟩
theorem cw36 : code_w B36 := ⟨mem1 229 rfl, mem1 2 rfl, by decide⟩
theorem cw37 : code_w B37 := ⟨mem1 233 rfl, mem1 2 rfl, by decide⟩
theorem cw38 : code_w B38 := ⟨mem1 237 rfl, mem1 2 rfl, by decide⟩
theorem cw39 : code_w B39 := ⟨mem1 241 rfl, mem1 2 rfl, by decide⟩
theorem cw40 : code_w B40 := ⟨mem1 246 rfl, mem1 2 rfl, by decide⟩
theorem cw41 : code_w B41 := ⟨mem1 250 rfl, mem1 249 rfl, by decide⟩
theorem cw42 : code_w B42 := ⟨mem1 254 rfl, mem1 2 rfl, by decide⟩
theorem cw43 : code_w B43 := ⟨mem1 258 rfl, mem1 2 rfl, by decide⟩
theorem rk0_2_0 : room_ok B0 B2 0 := by decide
theorem rk0_2_1 : room_ok B0 B2 1 := by decide
theorem rk0_3_1 : room_ok B0 B3 1 := by decide
theorem rk0_7_1 : room_ok B0 B7 1 := by decide
theorem rk0_9_0 : room_ok B0 B9 0 := by decide
theorem rk0_32_1 : room_ok B0 B32 1 := by decide
theorem rk0_33_1 : room_ok B0 B33 1 := by decide
theorem rk0_34_1 : room_ok B0 B34 1 := by decide
theorem rk0_35_1 : room_ok B0 B35 1 := by decide
theorem rk0_40_1 : room_ok B0 B40 1 := by decide
theorem rk0_41_2 : room_ok B0 B41 2 := by decide
theorem rk3_4_0 : room_ok B3 B4 0 := by decide
theorem rk3_5_2 : room_ok B3 B5 2 := by decide
theorem rk3_6_0 : room_ok B3 B6 0 := by decide
theorem rk7_6_0 : room_ok B7 B6 0 := by decide
theorem rk7_8_2 : room_ok B7 B8 2 := by decide
theorem rk9_10_0 : room_ok B9 B10 0 := by decide
theorem rk10_11_0 : room_ok B10 B11 0 := by decide
theorem rk10_17_0 : room_ok B10 B17 0 := by decide
theorem rk10_18_0 : room_ok B10 B18 0 := by decide
theorem rk10_25_0 : room_ok B10 B25 0 := by decide
theorem rk10_27_0 : room_ok B10 B27 0 := by decide
theorem rk10_29_0 : room_ok B10 B29 0 := by decide
theorem rk10_42_0 : room_ok B10 B42 0 := by decide
theorem rk11_12_0 : room_ok B11 B12 0 := by decide
theorem rk11_16_1 : room_ok B11 B16 1 := by decide
theorem rk12_13_0 : room_ok B12 B13 0 := by decide
theorem rk12_14_0 : room_ok B12 B14 0 := by decide
theorem rk12_15_0 : room_ok B12 B15 0 := by decide
theorem rk18_19_0 : room_ok B18 B19 0 := by decide
theorem rk18_22_0 : room_ok B18 B22 0 := by decide
theorem rk19_20_0 : room_ok B19 B20 0 := by decide
theorem rk20_21_0 : room_ok B20 B21 0 := by decide
theorem rk20_27_0 : room_ok B20 B27 0 := by decide
theorem rk20_28_0 : room_ok B20 B28 0 := by decide
theorem rk22_12_0 : room_ok B22 B12 0 := by decide
theorem rk22_21_0 : room_ok B22 B21 0 := by decide
theorem rk22_23_0 : room_ok B22 B23 0 := by decide
theorem rk22_27_0 : room_ok B22 B27 0 := by decide
theorem rk22_28_0 : room_ok B22 B28 0 := by decide
theorem rk23_24_3 : room_ok B23 B24 3 := by decide
theorem rk25_26_0 : room_ok B25 B26 0 := by decide
theorem rk25_27_0 : room_ok B25 B27 0 := by decide
theorem rk29_30_0 : room_ok B29 B30 0 := by decide
theorem rk29_31_0 : room_ok B29 B31 0 := by decide
theorem rk31_24_0 : room_ok B31 B24 0 := by decide
theorem rk35_11_0 : room_ok B35 B11 0 := by decide
theorem rk35_36_1 : room_ok B35 B36 1 := by decide
theorem rk35_37_0 : room_ok B35 B37 0 := by decide
theorem rk37_38_0 : room_ok B37 B38 0 := by decide
theorem rk37_39_0 : room_ok B37 B39 0 := by decide
theorem rk38_24_1 : room_ok B38 B24 1 := by decide
theorem rk39_30_0 : room_ok B39 B30 0 := by decide
theorem rk40_10_0 : room_ok B40 B10 0 := by decide
theorem rk42_27_0 : room_ok B42 B27 0 := by decide
theorem rk42_43_0 : room_ok B42 B43 0 := by decide
def X_init_b158 (ob : Rec) (i2 : Int32) : Option (Rec) :=
  some (sI (sI (sI (sI (sI (sI (sI (sI (sI (sI (sI ob 0 i2) 1 (((1 : Int32) <<< (i2 &&& 31)) - (1 : Int32))) 2 (2 : Int32)) 3 (0 : Int32)) 4 (0 : Int32)) 5 (0 : Int32)) 6 (0 : Int32)) 7 (0 : Int32)) 10 (0 : Int32)) 9 (1 : Int32)) 8 (0 : Int32))
set_option maxRecDepth 65536 in
set_option maxHeartbeats 4000000 in
theorem X_init_b158_p {C : Ctx} {a : Nat} {H : List (Nat × Nat × Rec)} {res : Rec} (ob : Rec) (i2 : Int32) (hf : X_init_b158 ob i2 = some res) : Runs C B1 17 283 158 [vr a, vn, vi i2] [] (a + 1 + 17, (a, 17, ob) :: H) (Ans none (a + 1 + 17, (a, 17, res) :: H)) := by
  delta X_init_b158 at hf
  refine Runs.aloadN d1_158 rfl <| Runs.iloadN d1_159 rfl <| Runs.putI d1_160 w45 fS_0 (Or.inl w46) <| Runs.aloadN d1_163 rfl <| Runs.iconst d1_164 ci_1 <| Runs.iloadN d1_165 rfl <| Runs.ishl d1_166 <| Runs.iconst d1_167 ci_1 <| Runs.isub d1_168 <| Runs.putI d1_169 w47 fS_1 (Or.inl w48) <| Runs.aloadN d1_172 rfl <| Runs.iconst d1_173 ci_2 <| ?_
  refine Runs.putI d1_174 w49 fS_2 (Or.inl w50) <| Runs.aloadN d1_177 rfl <| Runs.iconst d1_178 ci_0 <| Runs.putI d1_179 w51 fS_3 (Or.inl w52) <| Runs.aloadN d1_182 rfl <| Runs.iconst d1_183 ci_0 <| Runs.putI d1_184 w53 fS_4 (Or.inl w54) <| Runs.aloadN d1_187 rfl <| Runs.iconst d1_188 ci_0 <| Runs.putI d1_189 w55 fS_5 (Or.inl w56) <| Runs.aloadN d1_192 rfl <| Runs.iconst d1_193 ci_0 <| ?_
  refine Runs.putI d1_194 w57 fS_6 (Or.inl w58) <| Runs.aloadN d1_197 rfl <| Runs.iconst d1_198 ci_0 <| Runs.putI d1_199 w59 fS_7 (Or.inl w60) <| Runs.aloadN d1_202 rfl <| Runs.iconst d1_203 ci_0 <| Runs.putZ (y := (0 : Int32)) d1_204 w61 fS_10 (Or.inl w62) rfl <| Runs.aloadN d1_207 rfl <| Runs.iconst d1_208 ci_1 <| Runs.putZ (y := (1 : Int32)) d1_209 w63 fS_9 (Or.inl w64) rfl <| Runs.aloadN d1_212 rfl <| Runs.iconst d1_213 ci_0 <| ?_
  obtain rfl := Option.some.inj hf
  exact Runs.putI d1_214 w65 fS_8 (Or.inl w66) <| Runs.retV d1_217 rfl ⟨by decide, by decide⟩ ⟨rfl, rfl⟩
def X_init_b149 (ob : Rec) (i2 : Int32) : Option (Rec) :=
  if (12 : Int32) < i2 then
    X_init_b158 ob (12 : Int32)
  else
    X_init_b158 ob i2
set_option maxRecDepth 65536 in
set_option maxHeartbeats 4000000 in
theorem X_init_b149_p {C : Ctx} {a : Nat} {H : List (Nat × Nat × Rec)} {res : Rec} (ob : Rec) (i2 : Int32) (hf : X_init_b149 ob i2 = some res) : Runs C B1 17 283 149 [vr a, vn, vi i2] [] (a + 1 + 17, (a, 17, ob) :: H) (Ans none (a + 1 + 17, (a, 17, res) :: H)) := by
  delta X_init_b149 at hf
  refine Runs.iloadN d1_149 rfl <| Runs.bipush d1_150 cb_12 <| ?_
  refine ite_el hf (fun hc1 hf => ?_) (fun hc1 hf => ?_)
  · refine Runs.icN d1_152 (tlt hc1).2.2.2 <| ?_
    exact Runs.bipush d1_155 cb_12 <| Runs.istoreN (P' := [vr a, vn, vi (12 : Int32)]) d1_157 (by decide) rfl <| X_init_b158_p ob (12 : Int32) hf
  · exact Runs.icY (pc' := 158) d1_152 (flt hc1).2.2.2 (by decide) <| X_init_b158_p ob i2 hf
def X_init (i1 : Int32) : Option (Rec) :=
  if i1 < (1 : Int32) then
    X_init_b149 zrec (1 : Int32)
  else
    X_init_b149 zrec i1
set_option maxRecDepth 65536 in
set_option maxHeartbeats 4000000 in
theorem X_init_p {C : Ctx} {a : Nat} {H : List (Nat × Nat × Rec)} {res : Rec} (i1 : Int32) (hf : X_init i1 = some res) : Runs C B1 0 0 0 [vr a, vi i1, vn] [] (a + 1, (a, 0, zrec) :: H) (Ans none (a + 1 + 17, (a, 17, res) :: H)) := by
  delta X_init at hf
  refine Runs.aloadN d1_0 rfl <| Runs.initO (W := 0) d1_1 w6 w7 w8 rfl (by decide) <| Runs.aloadN d1_4 rfl <| Runs.bipush d1_5 cb_8 <| Runs.newArr (j' := 1) (top' := a + 1 + 1) (k' := 1) (n' := 8) d1_7 d1_9 fA_0 w10 rfl w9 (Or.inr ⟨rfl, rfl⟩) rfl (by decide) ⟨by decide, by decide⟩ ⟨fun _ => rfl, fun _ => rfl⟩ rfl rfl rfl (by decide) <| Runs.aloadN d1_12 rfl <| Runs.bipush d1_13 cb_8 <| Runs.newArr (j' := 2) (top' := a + 1 + 2) (k' := 2) (n' := 16) d1_15 d1_17 fA_1 w13 rfl w12 (Or.inr ⟨rfl, rfl⟩) rfl (by decide) ⟨by decide, by decide⟩ ⟨fun _ => rfl, fun _ => rfl⟩ rfl rfl rfl (by decide) <| Runs.aloadN d1_20 rfl <| Runs.bipush d1_21 cb_24 <| Runs.newArr (j' := 3) (top' := a + 1 + 3) (k' := 3) (n' := 40) d1_23 d1_25 fA_2 w15 rfl w9 (Or.inr ⟨rfl, rfl⟩) rfl (by decide) ⟨by decide, by decide⟩ ⟨fun _ => rfl, fun _ => rfl⟩ rfl rfl rfl (by decide) <| Runs.aloadN d1_28 rfl <| ?_
  refine Runs.bipush d1_29 cb_24 <| Runs.newArr (j' := 4) (top' := a + 1 + 4) (k' := 4) (n' := 64) d1_31 d1_33 fA_3 w17 rfl w9 (Or.inr ⟨rfl, rfl⟩) rfl (by decide) ⟨by decide, by decide⟩ ⟨fun _ => rfl, fun _ => rfl⟩ rfl rfl rfl (by decide) <| Runs.aloadN d1_36 rfl <| Runs.bipush d1_37 cb_16 <| Runs.newArr (j' := 5) (top' := a + 1 + 5) (k' := 5) (n' := 80) d1_39 d1_41 fA_4 w19 rfl w9 (Or.inr ⟨rfl, rfl⟩) rfl (by decide) ⟨by decide, by decide⟩ ⟨fun _ => rfl, fun _ => rfl⟩ rfl rfl rfl (by decide) <| Runs.aloadN d1_44 rfl <| Runs.bipush d1_45 cb_16 <| Runs.newArr (j' := 6) (top' := a + 1 + 6) (k' := 6) (n' := 96) d1_47 d1_49 fA_5 w21 rfl w9 (Or.inr ⟨rfl, rfl⟩) rfl (by decide) ⟨by decide, by decide⟩ ⟨fun _ => rfl, fun _ => rfl⟩ rfl rfl rfl (by decide) <| Runs.aloadN d1_52 rfl <| Runs.bipush d1_53 cb_40 <| Runs.newArr (j' := 7) (top' := a + 1 + 7) (k' := 7) (n' := 136) d1_55 d1_57 fA_6 w23 rfl w9 (Or.inr ⟨rfl, rfl⟩) rfl (by decide) ⟨by decide, by decide⟩ ⟨fun _ => rfl, fun _ => rfl⟩ rfl rfl rfl (by decide) <| Runs.aloadN d1_60 rfl <| ?_
  refine Runs.bipush d1_61 cb_16 <| Runs.newArr (j' := 8) (top' := a + 1 + 8) (k' := 8) (n' := 152) d1_63 d1_65 fA_7 w25 rfl w9 (Or.inr ⟨rfl, rfl⟩) rfl (by decide) ⟨by decide, by decide⟩ ⟨fun _ => rfl, fun _ => rfl⟩ rfl rfl rfl (by decide) <| Runs.aloadN d1_68 rfl <| Runs.bipush d1_69 cb_16 <| Runs.newArr (j' := 9) (top' := a + 1 + 9) (k' := 9) (n' := 168) d1_71 d1_73 fA_8 w27 rfl w9 (Or.inr ⟨rfl, rfl⟩) rfl (by decide) ⟨by decide, by decide⟩ ⟨fun _ => rfl, fun _ => rfl⟩ rfl rfl rfl (by decide) <| Runs.aloadN d1_76 rfl <| Runs.bipush d1_77 cb_16 <| Runs.newArr (j' := 10) (top' := a + 1 + 10) (k' := 10) (n' := 184) d1_79 d1_81 fA_9 w29 rfl w9 (Or.inr ⟨rfl, rfl⟩) rfl (by decide) ⟨by decide, by decide⟩ ⟨fun _ => rfl, fun _ => rfl⟩ rfl rfl rfl (by decide) <| Runs.aloadN d1_84 rfl <| Runs.bipush d1_85 cb_16 <| Runs.newArr (j' := 11) (top' := a + 1 + 11) (k' := 11) (n' := 200) d1_87 d1_89 fA_10 w31 rfl w9 (Or.inr ⟨rfl, rfl⟩) rfl (by decide) ⟨by decide, by decide⟩ ⟨fun _ => rfl, fun _ => rfl⟩ rfl rfl rfl (by decide) <| Runs.aloadN d1_92 rfl <| ?_
  refine Runs.bipush d1_93 cb_16 <| Runs.newArr (j' := 12) (top' := a + 1 + 12) (k' := 12) (n' := 216) d1_95 d1_97 fA_11 w33 rfl w9 (Or.inr ⟨rfl, rfl⟩) rfl (by decide) ⟨by decide, by decide⟩ ⟨fun _ => rfl, fun _ => rfl⟩ rfl rfl rfl (by decide) <| Runs.aloadN d1_100 rfl <| Runs.bipush d1_101 cb_16 <| Runs.newArr (j' := 13) (top' := a + 1 + 13) (k' := 13) (n' := 232) d1_103 d1_105 fA_12 w35 rfl w9 (Or.inr ⟨rfl, rfl⟩) rfl (by decide) ⟨by decide, by decide⟩ ⟨fun _ => rfl, fun _ => rfl⟩ rfl rfl rfl (by decide) <| Runs.aloadN d1_108 rfl <| Runs.bipush d1_109 cb_12 <| Runs.newArr (j' := 14) (top' := a + 1 + 14) (k' := 14) (n' := 244) d1_111 d1_113 fA_13 w37 rfl w9 (Or.inr ⟨rfl, rfl⟩) rfl (by decide) ⟨by decide, by decide⟩ ⟨fun _ => rfl, fun _ => rfl⟩ rfl rfl rfl (by decide) <| Runs.aloadN d1_116 rfl <| Runs.bipush d1_117 cb_13 <| Runs.newArr (j' := 15) (top' := a + 1 + 15) (k' := 15) (n' := 257) d1_119 d1_121 fA_14 w39 rfl w9 (Or.inr ⟨rfl, rfl⟩) rfl (by decide) ⟨by decide, by decide⟩ ⟨fun _ => rfl, fun _ => rfl⟩ rfl rfl rfl (by decide) <| Runs.aloadN d1_124 rfl <| ?_
  refine Runs.bipush d1_125 cb_13 <| Runs.newArr (j' := 16) (top' := a + 1 + 16) (k' := 16) (n' := 270) d1_127 d1_129 fA_15 w41 rfl w9 (Or.inr ⟨rfl, rfl⟩) rfl (by decide) ⟨by decide, by decide⟩ ⟨fun _ => rfl, fun _ => rfl⟩ rfl rfl rfl (by decide) <| Runs.aloadN d1_132 rfl <| Runs.bipush d1_133 cb_13 <| Runs.newArr (j' := 17) (top' := a + 1 + 17) (k' := 17) (n' := 283) d1_135 d1_137 fA_16 w43 rfl w12 (Or.inr ⟨rfl, rfl⟩) rfl (by decide) ⟨by decide, by decide⟩ ⟨fun _ => rfl, fun _ => rfl⟩ rfl rfl rfl (by decide) <| Runs.iloadN d1_140 rfl <| Runs.istoreN (P' := [vr a, vi i1, vi i1]) d1_141 (by decide) rfl <| Runs.iloadN d1_142 rfl <| Runs.iconst d1_143 ci_1 <| ?_
  refine ite_el hf (fun hc2 hf => ?_) (fun hc2 hf => ?_)
  · refine Runs.icN d1_144 (tlt hc2).2.1 <| ?_
    exact Runs.iconst d1_147 ci_1 <| Runs.istoreN (P' := [vr a, vi i1, vi (1 : Int32)]) d1_148 (by decide) rfl <| Runs.forget [true, false, true] rfl <| X_init_b149_p zrec (1 : Int32) hf
  · exact Runs.icY (pc' := 149) d1_144 (flt hc2).2.1 (by decide) <| Runs.forget [true, false, true] rfl <| X_init_b149_p zrec i1 hf
theorem X_init_pay {C : Ctx} {a : Nat} {H : List (Nat × Nat × Rec)} {res : Rec} {i1 : Int32} (hf : X_init i1 = some res) : Pays C B1 [.ref a, .int i1] (a + 1, (a, 0, zrec) :: H) (Ans none (a + 1 + 17, (a, 17, res) :: H)) :=
  Pays.of pnK (Nat.le_of_ble_eq_true rfl) (P := [vr a, vi i1, vn]) 1 rfl (X_init_p i1 hf)
def X_addLiteral (ob : Rec) (i1 : Int32) (i2 : Int32) : Option (Int32 × Rec) :=
  if i1 < (0 : Int32) then
    some ((-1 : Int32), ob)
  else
    if i1 < (gI ob 0) then
      if (gI ob 4) < (8 : Int32) then
        chk (8 : Int32) (gI ob 4) <|
        chk (8 : Int32) (gI ob 4) <|
        some (((gI ob 4) + (1 : Int32)), (sI (sA (sA ob 0 (gI ob 4) i1) 1 (gI ob 4) (i2 &&& 1)) 4 ((gI ob 4) + (1 : Int32))))
      else
        some ((-2 : Int32), ob)
    else
      some ((-1 : Int32), ob)
set_option maxRecDepth 65536 in
set_option maxHeartbeats 4000000 in
theorem X_addLiteral_p {C : Ctx} {top : Nat} {a : Nat} {H : List (Nat × Nat × Rec)} {res : Int32 × Rec} (ob : Rec) (i1 : Int32) (i2 : Int32) (hf : X_addLiteral ob i1 i2 = some res) : Runs C B2 0 0 0 [vr a, vi i1, vi i2] [] (top, (a, 17, ob) :: H) (Ans (some (.int res.1)) (top, (a, 17, res.2) :: H)) := by
  delta X_addLiteral at hf
  refine Runs.iloadN d2_0 rfl <| ?_
  refine ite_el hf (fun hc1 hf => ?_) (fun hc1 hf => ?_)
  · refine Runs.ifY (pc' := 12) d2_1 (tlt hc1).1 (by decide) <| ?_
    obtain rfl := Option.some.inj hf
    exact Runs.iconst d2_12 ci_m1 <| Runs.retI d2_13 rfl ⟨by decide, by decide⟩ ⟨rfl, rfl⟩
  · refine Runs.ifN d2_1 (flt hc1).1 <| ?_
    refine Runs.iloadN d2_4 rfl <| Runs.aloadN d2_5 rfl <| Runs.getI d2_6 w45 fS_0 <| ?_
    refine ite_el hf (fun hc2 hf => ?_) (fun hc2 hf => ?_)
    · refine Runs.icY (pc' := 14) d2_9 (tlt hc2).1 (by decide) <| ?_
      refine Runs.aloadN d2_14 rfl <| Runs.getI d2_15 w53 fS_4 <| Runs.bipush d2_18 cb_8 <| ?_
      refine ite_el hf (fun hc3 hf => ?_) (fun hc3 hf => ?_)
      · refine Runs.icY (pc' := 26) d2_20 (tlt hc3).1 (by decide) <| ?_
        refine Runs.aloadN d2_26 rfl <| Runs.getA d2_27 fA_0 w10 (by decide) <| Runs.aloadN d2_30 rfl <| Runs.getI d2_31 w53 fS_4 <| Runs.iloadN d2_34 rfl <| ?_
        refine chk_el hf fun hi4 hf => ?_
        refine Runs.iastoreA d2_35 fA_0 (by decide) hi4 <| Runs.aloadN d2_36 rfl <| Runs.getA d2_37 fA_1 w13 (by decide) <| Runs.aloadN d2_40 rfl <| Runs.getI d2_41 w53 fS_4 <| Runs.iloadN d2_44 rfl <| ?_
        refine chk_el hf fun hi5 hf => ?_
        obtain rfl := Option.some.inj hf
        exact Runs.bastoreA (y := (i2 &&& 1)) d2_45 fA_1 (by decide) hi5 rfl <| Runs.aloadN d2_46 rfl <| Runs.dup d2_47 rfl <| Runs.getI d2_48 w53 fS_4 <| Runs.iconst d2_51 ci_1 <| Runs.iadd d2_52 <| Runs.putI d2_53 w53 fS_4 (Or.inl w54) <| Runs.aloadN d2_56 rfl <| Runs.getI d2_57 w53 fS_4 <| Runs.retI d2_60 rfl ⟨by decide, by decide⟩ ⟨rfl, rfl⟩
      · refine Runs.icN d2_20 (flt hc3).1 <| ?_
        obtain rfl := Option.some.inj hf
        exact Runs.bipush d2_23 cb_m2 <| Runs.retI d2_25 rfl ⟨by decide, by decide⟩ ⟨rfl, rfl⟩
    · refine Runs.icN d2_9 (flt hc2).1 <| ?_
      obtain rfl := Option.some.inj hf
      exact Runs.iconst d2_12 ci_m1 <| Runs.retI d2_13 rfl ⟨by decide, by decide⟩ ⟨rfl, rfl⟩
theorem X_addLiteral_pay {C : Ctx} {top : Nat} {a : Nat} {H : List (Nat × Nat × Rec)} {res : Int32 × Rec} {ob : Rec} {i1 : Int32} {i2 : Int32} (hf : X_addLiteral ob i1 i2 = some res) : Pays C B2 [.ref a, .int i1, .int i2] (top, (a, 17, ob) :: H) (Ans (some (.int res.1)) (top, (a, 17, res.2) :: H)) :=
  Pays.of pnK (Nat.le_of_ble_eq_true rfl) (P := [vr a, vi i1, vi i2]) 0 rfl (X_addLiteral_p ob i1 i2 hf)
def X_pendingNegatedParity_w4 (NF : Nat) (ob : Rec) (k4 : Int32 → Int32 → Option (Int32)) (i1 : Int32) (i2 : Int32) : Option (Int32) :=
  if i2 < (gI ob 4) then
    if i2 < (8 : Int32) then
      chk (8 : Int32) i2 <|
      if (gA ob 1 i2) = (0 : Int32) then
        k4 i1 (i2 + (1 : Int32))
      else
        k4 (i1 ^^^ (1 : Int32)) (i2 + (1 : Int32))
    else
      some i1
  else
    some i1
def X_pendingNegatedParity_l4 (NF : Nat) (ob : Rec) : Nat → Int32 → Int32 → Option (Int32)
  | 0, _, _ => none
  | n + 1, i1, i2 => X_pendingNegatedParity_w4 NF ob (X_pendingNegatedParity_l4 NF ob n) i1 i2
set_option maxRecDepth 65536 in
set_option maxHeartbeats 4000000 in
theorem X_pendingNegatedParity_w4_p {C : Ctx} {top : Nat} {a : Nat} {H : List (Nat × Nat × Rec)} {ob : Rec} {res : Int32} {NF : Nat} (k4 : Int32 → Int32 → Option (Int32)) (hk4 : ∀ (i1 : Int32) (i2 : Int32), k4 i1 i2 = some res → Runs C B4 0 0 4 [vr a, vi i1, vi i2] [] (top, (a, 17, ob) :: H) (Ans (some (.int res)) (top, (a, 17, ob) :: H))) (i1 : Int32) (i2 : Int32) (hf : X_pendingNegatedParity_w4 NF ob k4 i1 i2 = some res) : Runs C B4 0 0 4 [vr a, vi i1, vi i2] [] (top, (a, 17, ob) :: H) (Ans (some (.int res)) (top, (a, 17, ob) :: H)) := by
  delta X_pendingNegatedParity_w4 at hf
  refine Runs.iloadN d4_4 rfl <| Runs.aloadN d4_5 rfl <| Runs.getI d4_6 w53 fS_4 <| ?_
  refine ite_el hf (fun hc1 hf => ?_) (fun hc1 hf => ?_)
  · refine Runs.icN d4_9 (tlt hc1).2.1 <| ?_
    refine Runs.iloadN d4_12 rfl <| Runs.bipush d4_13 cb_8 <| ?_
    refine ite_el hf (fun hc2 hf => ?_) (fun hc2 hf => ?_)
    · refine Runs.icN d4_15 (tlt hc2).2.1 <| ?_
      refine Runs.aloadN d4_18 rfl <| Runs.getA d4_19 fA_1 w13 (by decide) <| Runs.iloadN d4_22 rfl <| ?_
      refine chk_el hf fun hi3 hf => ?_
      refine Runs.baloadA d4_23 fA_1 (by decide) hi3 <| ?_
      refine ite_el hf (fun hc4 hf => ?_) (fun hc4 hf => ?_)
      · refine Runs.ifY (pc' := 31) d4_24 (teq hc4).1 (by decide) <| ?_
        exact Runs.iinc (P' := [vr a, vi i1, vi (i2 + (1 : Int32))]) d4_31 ci_1 rfl (by decide) rfl <| Runs.goto (pc' := 4) d4_34 (by decide) <| hk4 i1 (i2 + (1 : Int32)) hf
      · refine Runs.ifN d4_24 (feq hc4).1 <| ?_
        exact Runs.iloadN d4_27 rfl <| Runs.iconst d4_28 ci_1 <| Runs.ixor d4_29 <| Runs.istoreN (P' := [vr a, vi (i1 ^^^ (1 : Int32)), vi i2]) d4_30 (by decide) rfl <| Runs.iinc (P' := [vr a, vi (i1 ^^^ (1 : Int32)), vi (i2 + (1 : Int32))]) d4_31 ci_1 rfl (by decide) rfl <| Runs.goto (pc' := 4) d4_34 (by decide) <| hk4 (i1 ^^^ (1 : Int32)) (i2 + (1 : Int32)) hf
    · refine Runs.icY (pc' := 37) d4_15 (flt hc2).2.1 (by decide) <| ?_
      obtain rfl := Option.some.inj hf
      exact Runs.iloadN d4_37 rfl <| Runs.retI d4_38 rfl ⟨by decide, by decide⟩ ⟨rfl, rfl⟩
  · refine Runs.icY (pc' := 37) d4_9 (flt hc1).2.1 (by decide) <| ?_
    obtain rfl := Option.some.inj hf
    exact Runs.iloadN d4_37 rfl <| Runs.retI d4_38 rfl ⟨by decide, by decide⟩ ⟨rfl, rfl⟩
theorem X_pendingNegatedParity_l4_p {C : Ctx} {top : Nat} {a : Nat} {H : List (Nat × Nat × Rec)} {ob : Rec} {res : Int32} {NF : Nat} (n : Nat) (i1 : Int32) (i2 : Int32) (hf : X_pendingNegatedParity_l4 NF ob n i1 i2 = some res) : Runs C B4 0 0 4 [vr a, vi i1, vi i2] [] (top, (a, 17, ob) :: H) (Ans (some (.int res)) (top, (a, 17, ob) :: H)) := by
  induction n generalizing i1 i2 with
  | zero => cases (show (none : Option (Int32)) = some res from hf)
  | succ n ih => exact X_pendingNegatedParity_w4_p (X_pendingNegatedParity_l4 NF ob n) (fun i1 i2 h => ih _ _ h) i1 i2 hf
def X_pendingNegatedParity (NF : Nat) (ob : Rec) : Option (Int32) :=
  X_pendingNegatedParity_l4 NF ob NF (0 : Int32) (0 : Int32)
set_option maxRecDepth 65536 in
set_option maxHeartbeats 4000000 in
theorem X_pendingNegatedParity_p {C : Ctx} {top : Nat} {a : Nat} {H : List (Nat × Nat × Rec)} {ob : Rec} {res : Int32} {NF : Nat} (hf : X_pendingNegatedParity NF ob = some res) : Runs C B4 0 0 0 [vr a, vn, vn] [] (top, (a, 17, ob) :: H) (Ans (some (.int res)) (top, (a, 17, ob) :: H)) := by
  delta X_pendingNegatedParity at hf
  exact Runs.iconst d4_0 ci_0 <| Runs.istoreN (P' := [vr a, vi (0 : Int32), vn]) d4_1 (by decide) rfl <| Runs.iconst d4_2 ci_0 <| Runs.istoreN (P' := [vr a, vi (0 : Int32), vi (0 : Int32)]) d4_3 (by decide) rfl <| X_pendingNegatedParity_l4_p NF (0 : Int32) (0 : Int32) hf
theorem X_pendingNegatedParity_pay {C : Ctx} {top : Nat} {a : Nat} {H : List (Nat × Nat × Rec)} {ob : Rec} {res : Int32} {NF : Nat} (hf : X_pendingNegatedParity NF ob = some res) : Pays C B4 [.ref a] (top, (a, 17, ob) :: H) (Ans (some (.int res)) (top, (a, 17, ob) :: H)) :=
  Pays.of pnK (Nat.le_of_ble_eq_true rfl) (P := [vr a, vn, vn]) 2 rfl (X_pendingNegatedParity_p hf)
def X_pendingXorMask_w4 (NF : Nat) (ob : Rec) (k4 : Int32 → Int32 → Option (Int32)) (i1 : Int32) (i2 : Int32) : Option (Int32) :=
  if i2 < (gI ob 4) then
    if i2 < (8 : Int32) then
      chk (8 : Int32) i2 <|
      k4 (i1 ^^^ ((1 : Int32) <<< ((gA ob 0 i2) &&& 31))) (i2 + (1 : Int32))
    else
      some (i1 &&& (gI ob 1))
  else
    some (i1 &&& (gI ob 1))
def X_pendingXorMask_l4 (NF : Nat) (ob : Rec) : Nat → Int32 → Int32 → Option (Int32)
  | 0, _, _ => none
  | n + 1, i1, i2 => X_pendingXorMask_w4 NF ob (X_pendingXorMask_l4 NF ob n) i1 i2
set_option maxRecDepth 65536 in
set_option maxHeartbeats 4000000 in
theorem X_pendingXorMask_w4_p {C : Ctx} {top : Nat} {a : Nat} {H : List (Nat × Nat × Rec)} {ob : Rec} {res : Int32} {NF : Nat} (k4 : Int32 → Int32 → Option (Int32)) (hk4 : ∀ (i1 : Int32) (i2 : Int32), k4 i1 i2 = some res → Runs C B5 0 0 4 [vr a, vi i1, vi i2] [] (top, (a, 17, ob) :: H) (Ans (some (.int res)) (top, (a, 17, ob) :: H))) (i1 : Int32) (i2 : Int32) (hf : X_pendingXorMask_w4 NF ob k4 i1 i2 = some res) : Runs C B5 0 0 4 [vr a, vi i1, vi i2] [] (top, (a, 17, ob) :: H) (Ans (some (.int res)) (top, (a, 17, ob) :: H)) := by
  delta X_pendingXorMask_w4 at hf
  refine Runs.iloadN d5_4 rfl <| Runs.aloadN d5_5 rfl <| Runs.getI d5_6 w53 fS_4 <| ?_
  refine ite_el hf (fun hc1 hf => ?_) (fun hc1 hf => ?_)
  · refine Runs.icN d5_9 (tlt hc1).2.1 <| ?_
    refine Runs.iloadN d5_12 rfl <| Runs.bipush d5_13 cb_8 <| ?_
    refine ite_el hf (fun hc2 hf => ?_) (fun hc2 hf => ?_)
    · refine Runs.icN d5_15 (tlt hc2).2.1 <| ?_
      refine Runs.iloadN d5_18 rfl <| Runs.iconst d5_19 ci_1 <| Runs.aloadN d5_20 rfl <| Runs.getA d5_21 fA_0 w10 (by decide) <| Runs.iloadN d5_24 rfl <| ?_
      refine chk_el hf fun hi3 hf => ?_
      exact Runs.ialoadA d5_25 fA_0 (by decide) hi3 <| Runs.ishl d5_26 <| Runs.ixor d5_27 <| Runs.istoreN (P' := [vr a, vi (i1 ^^^ ((1 : Int32) <<< ((gA ob 0 i2) &&& 31))), vi i2]) d5_28 (by decide) rfl <| Runs.iinc (P' := [vr a, vi (i1 ^^^ ((1 : Int32) <<< ((gA ob 0 i2) &&& 31))), vi (i2 + (1 : Int32))]) d5_29 ci_1 rfl (by decide) rfl <| Runs.goto (pc' := 4) d5_32 (by decide) <| hk4 (i1 ^^^ ((1 : Int32) <<< ((gA ob 0 i2) &&& 31))) (i2 + (1 : Int32)) hf
    · refine Runs.icY (pc' := 35) d5_15 (flt hc2).2.1 (by decide) <| ?_
      obtain rfl := Option.some.inj hf
      exact Runs.iloadN d5_35 rfl <| Runs.aloadN d5_36 rfl <| Runs.getI d5_37 w47 fS_1 <| Runs.iand d5_40 <| Runs.retI d5_41 rfl ⟨by decide, by decide⟩ ⟨rfl, rfl⟩
  · refine Runs.icY (pc' := 35) d5_9 (flt hc1).2.1 (by decide) <| ?_
    obtain rfl := Option.some.inj hf
    exact Runs.iloadN d5_35 rfl <| Runs.aloadN d5_36 rfl <| Runs.getI d5_37 w47 fS_1 <| Runs.iand d5_40 <| Runs.retI d5_41 rfl ⟨by decide, by decide⟩ ⟨rfl, rfl⟩
theorem X_pendingXorMask_l4_p {C : Ctx} {top : Nat} {a : Nat} {H : List (Nat × Nat × Rec)} {ob : Rec} {res : Int32} {NF : Nat} (n : Nat) (i1 : Int32) (i2 : Int32) (hf : X_pendingXorMask_l4 NF ob n i1 i2 = some res) : Runs C B5 0 0 4 [vr a, vi i1, vi i2] [] (top, (a, 17, ob) :: H) (Ans (some (.int res)) (top, (a, 17, ob) :: H)) := by
  induction n generalizing i1 i2 with
  | zero => cases (show (none : Option (Int32)) = some res from hf)
  | succ n ih => exact X_pendingXorMask_w4_p (X_pendingXorMask_l4 NF ob n) (fun i1 i2 h => ih _ _ h) i1 i2 hf
def X_pendingXorMask (NF : Nat) (ob : Rec) : Option (Int32) :=
  X_pendingXorMask_l4 NF ob NF (0 : Int32) (0 : Int32)
set_option maxRecDepth 65536 in
set_option maxHeartbeats 4000000 in
theorem X_pendingXorMask_p {C : Ctx} {top : Nat} {a : Nat} {H : List (Nat × Nat × Rec)} {ob : Rec} {res : Int32} {NF : Nat} (hf : X_pendingXorMask NF ob = some res) : Runs C B5 0 0 0 [vr a, vn, vn] [] (top, (a, 17, ob) :: H) (Ans (some (.int res)) (top, (a, 17, ob) :: H)) := by
  delta X_pendingXorMask at hf
  exact Runs.iconst d5_0 ci_0 <| Runs.istoreN (P' := [vr a, vi (0 : Int32), vn]) d5_1 (by decide) rfl <| Runs.iconst d5_2 ci_0 <| Runs.istoreN (P' := [vr a, vi (0 : Int32), vi (0 : Int32)]) d5_3 (by decide) rfl <| X_pendingXorMask_l4_p NF (0 : Int32) (0 : Int32) hf
theorem X_pendingXorMask_pay {C : Ctx} {top : Nat} {a : Nat} {H : List (Nat × Nat × Rec)} {ob : Rec} {res : Int32} {NF : Nat} (hf : X_pendingXorMask NF ob = some res) : Pays C B5 [.ref a] (top, (a, 17, ob) :: H) (Ans (some (.int res)) (top, (a, 17, ob) :: H)) :=
  Pays.of pnK (Nat.le_of_ble_eq_true rfl) (P := [vr a, vn, vn]) 2 rfl (X_pendingXorMask_p hf)
def X_pushOrder (ob : Rec) (i1 : Int32) : Option (Rec) :=
  if (gI ob 7) < (0 : Int32) then
    some ob
  else
    if (gI ob 7) < (40 : Int32) then
      chk (40 : Int32) (gI ob 7) <|
      some (sI (sA ob 6 (gI ob 7) i1) 7 ((gI ob 7) + (1 : Int32)))
    else
      some ob
set_option maxRecDepth 65536 in
set_option maxHeartbeats 4000000 in
theorem X_pushOrder_p {C : Ctx} {top : Nat} {a : Nat} {H : List (Nat × Nat × Rec)} {res : Rec} (ob : Rec) (i1 : Int32) (hf : X_pushOrder ob i1 = some res) : Runs C B6 0 0 0 [vr a, vi i1] [] (top, (a, 17, ob) :: H) (Ans none (top, (a, 17, res) :: H)) := by
  delta X_pushOrder at hf
  refine Runs.aloadN d6_0 rfl <| Runs.getI d6_1 w59 fS_7 <| ?_
  refine ite_el hf (fun hc1 hf => ?_) (fun hc1 hf => ?_)
  · refine Runs.ifY (pc' := 16) d6_4 (tlt hc1).1 (by decide) <| ?_
    obtain rfl := Option.some.inj hf
    exact Runs.retV d6_16 rfl ⟨by decide, by decide⟩ ⟨rfl, rfl⟩
  · refine Runs.ifN d6_4 (flt hc1).1 <| ?_
    refine Runs.aloadN d6_7 rfl <| Runs.getI d6_8 w59 fS_7 <| Runs.bipush d6_11 cb_40 <| ?_
    refine ite_el hf (fun hc2 hf => ?_) (fun hc2 hf => ?_)
    · refine Runs.icY (pc' := 17) d6_13 (tlt hc2).1 (by decide) <| ?_
      refine Runs.aloadN d6_17 rfl <| Runs.getA d6_18 fA_6 w23 (by decide) <| Runs.aloadN d6_21 rfl <| Runs.getI d6_22 w59 fS_7 <| Runs.iloadN d6_25 rfl <| ?_
      refine chk_el hf fun hi3 hf => ?_
      obtain rfl := Option.some.inj hf
      exact Runs.iastoreA d6_26 fA_6 (by decide) hi3 <| Runs.aloadN d6_27 rfl <| Runs.dup d6_28 rfl <| Runs.getI d6_29 w59 fS_7 <| Runs.iconst d6_32 ci_1 <| Runs.iadd d6_33 <| Runs.putI d6_34 w59 fS_7 (Or.inl w60) <| Runs.retV d6_37 rfl ⟨by decide, by decide⟩ ⟨rfl, rfl⟩
    · refine Runs.icN d6_13 (flt hc2).1 <| ?_
      obtain rfl := Option.some.inj hf
      exact Runs.retV d6_16 rfl ⟨by decide, by decide⟩ ⟨rfl, rfl⟩
theorem X_pushOrder_pay {C : Ctx} {top : Nat} {a : Nat} {H : List (Nat × Nat × Rec)} {res : Rec} {ob : Rec} {i1 : Int32} (hf : X_pushOrder ob i1 = some res) : Pays C B6 [.ref a, .int i1] (top, (a, 17, ob) :: H) (Ans none (top, (a, 17, res) :: H)) :=
  Pays.of pnK (Nat.le_of_ble_eq_true rfl) (P := [vr a, vi i1]) 0 rfl (X_pushOrder_p ob i1 hf)
def X_commitXor_b42 (NF : Nat) (ob : Rec) (i2 : Int32) (i3 : Int32) : Option (Int32 × Rec) :=
  (X_pendingXorMask NF ob).bind fun r1 =>
  chk (16 : Int32) i2 <|
  chk (16 : Int32) i2 <|
  (X_pushOrder (sI (sA (sA ob 4 i2 r1) 5 i2 i3) 6 ((gI ob 6) + (1 : Int32))) (2 : Int32)).bind fun q5 =>
  some (i2, (sI (sI (sI q5 4 (0 : Int32)) 2 (2 : Int32)) 10 (0 : Int32)))
set_option maxRecDepth 65536 in
set_option maxHeartbeats 4000000 in
theorem X_commitXor_b42_p {C : Ctx} {top : Nat} {a : Nat} {H : List (Nat × Nat × Rec)} {res : Int32 × Rec} {NF : Nat} (ob : Rec) (i2 : Int32) (i3 : Int32) (hf : X_commitXor_b42 NF ob i2 i3 = some res) : Runs C B3 0 0 42 [vr a, vn, vi i2, vi i3] [] (top, (a, 17, ob) :: H) (Ans (some (.int res.1)) (top, (a, 17, res.2) :: H)) := by
  delta X_commitXor_b42 at hf
  refine Runs.aloadN d3_42 rfl <| Runs.getA d3_43 fA_4 w19 (by decide) <| Runs.iloadN d3_46 rfl <| Runs.aloadN d3_47 rfl <| ?_
  refine bind_el hf fun r1 hg2 hf => ?_
  refine Runs.callP (N := B5) (W := 2) (as := []) (S' := [.int i2, .ref (a + 1 + 4)]) d3_48 w81 w82 w83 rfl cw5 ar5 rk3_5_2 (by decide) rfl rfl (X_pendingXorMask_pay hg2) <| ans1 <| ?_
  refine chk_el hf fun hi3 hf => ?_
  refine Runs.iastoreA d3_51 fA_4 (by decide) hi3 <| Runs.aloadN d3_52 rfl <| Runs.getA d3_53 fA_5 w21 (by decide) <| Runs.iloadN d3_56 rfl <| Runs.iloadN d3_57 rfl <| ?_
  refine chk_el hf fun hi4 hf => ?_
  refine Runs.iastoreA d3_58 fA_5 (by decide) hi4 <| Runs.aloadN d3_59 rfl <| Runs.dup d3_60 rfl <| Runs.getI d3_61 w57 fS_6 <| Runs.iconst d3_64 ci_1 <| Runs.iadd d3_65 <| Runs.putI d3_66 w57 fS_6 (Or.inl w58) <| Runs.aloadN d3_69 rfl <| Runs.iconst d3_70 ci_2 <| ?_
  refine bind_el hf fun q5 hg6 hf => ?_
  obtain rfl := Option.some.inj hf
  exact Runs.callP (N := B6) (W := 0) (as := [.int (2 : Int32)]) (S' := []) d3_71 w85 w86 w87 rfl cw6 ar6 rk3_6_0 (by decide) rfl rfl (X_pushOrder_pay hg6) <| ans0 <| Runs.aloadN d3_74 rfl <| Runs.iconst d3_75 ci_0 <| Runs.putI d3_76 w53 fS_4 (Or.inl w54) <| Runs.aloadN d3_79 rfl <| Runs.iconst d3_80 ci_2 <| Runs.putI d3_81 w49 fS_2 (Or.inl w50) <| Runs.aloadN d3_84 rfl <| Runs.iconst d3_85 ci_0 <| Runs.putZ (y := (0 : Int32)) d3_86 w61 fS_10 (Or.inl w62) rfl <| Runs.iloadN d3_89 rfl <| Runs.retI d3_90 rfl ⟨by decide, by decide⟩ ⟨rfl, rfl⟩
def X_commitXor (NF : Nat) (ob : Rec) (i1 : Int32) : Option (Int32 × Rec) :=
  if (gI ob 6) < (16 : Int32) then
    if (gI ob 7) < (40 : Int32) then
      (X_pendingNegatedParity NF ob).bind fun r9 =>
      if i1 = (0 : Int32) then
        X_commitXor_b42 NF ob (gI ob 6) r9
      else
        X_commitXor_b42 NF ob (gI ob 6) (r9 ^^^ (1 : Int32))
    else
      some ((-2 : Int32), ob)
  else
    some ((-2 : Int32), ob)
set_option maxRecDepth 65536 in
set_option maxHeartbeats 4000000 in
theorem X_commitXor_p {C : Ctx} {top : Nat} {a : Nat} {H : List (Nat × Nat × Rec)} {res : Int32 × Rec} {NF : Nat} (ob : Rec) (i1 : Int32) (hf : X_commitXor NF ob i1 = some res) : Runs C B3 0 0 0 [vr a, vi i1, vn, vn] [] (top, (a, 17, ob) :: H) (Ans (some (.int res.1)) (top, (a, 17, res.2) :: H)) := by
  delta X_commitXor at hf
  refine Runs.aloadN d3_0 rfl <| Runs.getI d3_1 w57 fS_6 <| Runs.bipush d3_4 cb_16 <| ?_
  refine ite_el hf (fun hc7 hf => ?_) (fun hc7 hf => ?_)
  · refine Runs.icY (pc' := 12) d3_6 (tlt hc7).1 (by decide) <| ?_
    refine Runs.aloadN d3_12 rfl <| Runs.getI d3_13 w59 fS_7 <| Runs.bipush d3_16 cb_40 <| ?_
    refine ite_el hf (fun hc8 hf => ?_) (fun hc8 hf => ?_)
    · refine Runs.icY (pc' := 24) d3_18 (tlt hc8).1 (by decide) <| ?_
      refine Runs.aloadN d3_24 rfl <| Runs.getI d3_25 w57 fS_6 <| Runs.istoreN (P' := [vr a, vi i1, vi (gI ob 6), vn]) d3_28 (by decide) rfl <| Runs.aloadN d3_29 rfl <| ?_
      refine bind_el hf fun r9 hg10 hf => ?_
      refine Runs.callP (N := B4) (W := 0) (as := []) (S' := []) d3_30 w77 w78 w79 rfl cw4 ar4 rk3_4_0 (by decide) rfl rfl (X_pendingNegatedParity_pay hg10) <| ans1 <| Runs.istoreN (P' := [vr a, vi i1, vi (gI ob 6), vi r9]) d3_33 (by decide) rfl <| Runs.iloadN d3_34 rfl <| ?_
      refine ite_el hf (fun hc11 hf => ?_) (fun hc11 hf => ?_)
      · exact Runs.ifY (pc' := 42) d3_35 (teq hc11).1 (by decide) <| Runs.forget [true, false, true, true] rfl <| X_commitXor_b42_p ob (gI ob 6) r9 hf
      · refine Runs.ifN d3_35 (feq hc11).1 <| ?_
        exact Runs.iloadN d3_38 rfl <| Runs.iconst d3_39 ci_1 <| Runs.ixor d3_40 <| Runs.istoreN (P' := [vr a, vi i1, vi (gI ob 6), vi (r9 ^^^ (1 : Int32))]) d3_41 (by decide) rfl <| Runs.forget [true, false, true, true] rfl <| X_commitXor_b42_p ob (gI ob 6) (r9 ^^^ (1 : Int32)) hf
    · refine Runs.icN d3_18 (flt hc8).1 <| ?_
      obtain rfl := Option.some.inj hf
      exact Runs.bipush d3_21 cb_m2 <| Runs.retI d3_23 rfl ⟨by decide, by decide⟩ ⟨rfl, rfl⟩
  · refine Runs.icN d3_6 (flt hc7).1 <| ?_
    obtain rfl := Option.some.inj hf
    exact Runs.bipush d3_9 cb_m2 <| Runs.retI d3_11 rfl ⟨by decide, by decide⟩ ⟨rfl, rfl⟩
theorem X_commitXor_pay {C : Ctx} {top : Nat} {a : Nat} {H : List (Nat × Nat × Rec)} {res : Int32 × Rec} {NF : Nat} {ob : Rec} {i1 : Int32} (hf : X_commitXor NF ob i1 = some res) : Pays C B3 [.ref a, .int i1] (top, (a, 17, ob) :: H) (Ans (some (.int res.1)) (top, (a, 17, res.2) :: H)) :=
  Pays.of pnK (Nat.le_of_ble_eq_true rfl) (P := [vr a, vi i1, vn, vn]) 2 rfl (X_commitXor_p ob i1 hf)
def X_pendingMask_w4 (NF : Nat) (ob : Rec) (k4 : Int32 → Int32 → Int32 → Option (Int32)) (i1 : Int32) (i2 : Int32) (i3 : Int32) : Option (Int32) :=
  if i3 < (gI ob 4) then
    if i3 < (8 : Int32) then
      chk (8 : Int32) i3 <|
      if (gA ob 1 i3) = i1 then
        chk (8 : Int32) i3 <|
        k4 i1 (i2 ||| ((1 : Int32) <<< ((gA ob 0 i3) &&& 31))) (i3 + (1 : Int32))
      else
        k4 i1 i2 (i3 + (1 : Int32))
    else
      some (i2 &&& (gI ob 1))
  else
    some (i2 &&& (gI ob 1))
def X_pendingMask_l4 (NF : Nat) (ob : Rec) : Nat → Int32 → Int32 → Int32 → Option (Int32)
  | 0, _, _, _ => none
  | n + 1, i1, i2, i3 => X_pendingMask_w4 NF ob (X_pendingMask_l4 NF ob n) i1 i2 i3
set_option maxRecDepth 65536 in
set_option maxHeartbeats 4000000 in
theorem X_pendingMask_w4_p {C : Ctx} {top : Nat} {a : Nat} {H : List (Nat × Nat × Rec)} {ob : Rec} {res : Int32} {NF : Nat} (k4 : Int32 → Int32 → Int32 → Option (Int32)) (hk4 : ∀ (i1 : Int32) (i2 : Int32) (i3 : Int32), k4 i1 i2 i3 = some res → Runs C B8 0 0 4 [vr a, vi i1, vi i2, vi i3] [] (top, (a, 17, ob) :: H) (Ans (some (.int res)) (top, (a, 17, ob) :: H))) (i1 : Int32) (i2 : Int32) (i3 : Int32) (hf : X_pendingMask_w4 NF ob k4 i1 i2 i3 = some res) : Runs C B8 0 0 4 [vr a, vi i1, vi i2, vi i3] [] (top, (a, 17, ob) :: H) (Ans (some (.int res)) (top, (a, 17, ob) :: H)) := by
  delta X_pendingMask_w4 at hf
  refine Runs.iloadN d8_4 rfl <| Runs.aloadN d8_5 rfl <| Runs.getI d8_6 w53 fS_4 <| ?_
  refine ite_el hf (fun hc1 hf => ?_) (fun hc1 hf => ?_)
  · refine Runs.icN d8_9 (tlt hc1).2.1 <| ?_
    refine Runs.iloadN d8_12 rfl <| Runs.bipush d8_13 cb_8 <| ?_
    refine ite_el hf (fun hc2 hf => ?_) (fun hc2 hf => ?_)
    · refine Runs.icN d8_15 (tlt hc2).2.1 <| ?_
      refine Runs.aloadN d8_18 rfl <| Runs.getA d8_19 fA_1 w13 (by decide) <| Runs.iloadN d8_22 rfl <| ?_
      refine chk_el hf fun hi3 hf => ?_
      refine Runs.baloadA d8_23 fA_1 (by decide) hi3 <| Runs.iloadN d8_24 rfl <| ?_
      refine ite_el hf (fun hc4 hf => ?_) (fun hc4 hf => ?_)
      · refine Runs.icN d8_25 (teq hc4).2 <| ?_
        refine Runs.iloadN d8_28 rfl <| Runs.iconst d8_29 ci_1 <| Runs.aloadN d8_30 rfl <| Runs.getA d8_31 fA_0 w10 (by decide) <| Runs.iloadN d8_34 rfl <| ?_
        refine chk_el hf fun hi5 hf => ?_
        exact Runs.ialoadA d8_35 fA_0 (by decide) hi5 <| Runs.ishl d8_36 <| Runs.ior d8_37 <| Runs.istoreN (P' := [vr a, vi i1, vi (i2 ||| ((1 : Int32) <<< ((gA ob 0 i3) &&& 31))), vi i3]) d8_38 (by decide) rfl <| Runs.iinc (P' := [vr a, vi i1, vi (i2 ||| ((1 : Int32) <<< ((gA ob 0 i3) &&& 31))), vi (i3 + (1 : Int32))]) d8_39 ci_1 rfl (by decide) rfl <| Runs.goto (pc' := 4) d8_42 (by decide) <| hk4 i1 (i2 ||| ((1 : Int32) <<< ((gA ob 0 i3) &&& 31))) (i3 + (1 : Int32)) hf
      · refine Runs.icY (pc' := 39) d8_25 (feq hc4).2 (by decide) <| ?_
        exact Runs.iinc (P' := [vr a, vi i1, vi i2, vi (i3 + (1 : Int32))]) d8_39 ci_1 rfl (by decide) rfl <| Runs.goto (pc' := 4) d8_42 (by decide) <| hk4 i1 i2 (i3 + (1 : Int32)) hf
    · refine Runs.icY (pc' := 45) d8_15 (flt hc2).2.1 (by decide) <| ?_
      obtain rfl := Option.some.inj hf
      exact Runs.iloadN d8_45 rfl <| Runs.aloadN d8_46 rfl <| Runs.getI d8_47 w47 fS_1 <| Runs.iand d8_50 <| Runs.retI d8_51 rfl ⟨by decide, by decide⟩ ⟨rfl, rfl⟩
  · refine Runs.icY (pc' := 45) d8_9 (flt hc1).2.1 (by decide) <| ?_
    obtain rfl := Option.some.inj hf
    exact Runs.iloadN d8_45 rfl <| Runs.aloadN d8_46 rfl <| Runs.getI d8_47 w47 fS_1 <| Runs.iand d8_50 <| Runs.retI d8_51 rfl ⟨by decide, by decide⟩ ⟨rfl, rfl⟩
theorem X_pendingMask_l4_p {C : Ctx} {top : Nat} {a : Nat} {H : List (Nat × Nat × Rec)} {ob : Rec} {res : Int32} {NF : Nat} (n : Nat) (i1 : Int32) (i2 : Int32) (i3 : Int32) (hf : X_pendingMask_l4 NF ob n i1 i2 i3 = some res) : Runs C B8 0 0 4 [vr a, vi i1, vi i2, vi i3] [] (top, (a, 17, ob) :: H) (Ans (some (.int res)) (top, (a, 17, ob) :: H)) := by
  induction n generalizing i1 i2 i3 with
  | zero => cases (show (none : Option (Int32)) = some res from hf)
  | succ n ih => exact X_pendingMask_w4_p (X_pendingMask_l4 NF ob n) (fun i1 i2 i3 h => ih _ _ _ h) i1 i2 i3 hf
def X_pendingMask (NF : Nat) (ob : Rec) (i1 : Int32) : Option (Int32) :=
  X_pendingMask_l4 NF ob NF i1 (0 : Int32) (0 : Int32)
set_option maxRecDepth 65536 in
set_option maxHeartbeats 4000000 in
theorem X_pendingMask_p {C : Ctx} {top : Nat} {a : Nat} {H : List (Nat × Nat × Rec)} {ob : Rec} {res : Int32} {NF : Nat} (i1 : Int32) (hf : X_pendingMask NF ob i1 = some res) : Runs C B8 0 0 0 [vr a, vi i1, vn, vn] [] (top, (a, 17, ob) :: H) (Ans (some (.int res)) (top, (a, 17, ob) :: H)) := by
  delta X_pendingMask at hf
  exact Runs.iconst d8_0 ci_0 <| Runs.istoreN (P' := [vr a, vi i1, vi (0 : Int32), vn]) d8_1 (by decide) rfl <| Runs.iconst d8_2 ci_0 <| Runs.istoreN (P' := [vr a, vi i1, vi (0 : Int32), vi (0 : Int32)]) d8_3 (by decide) rfl <| X_pendingMask_l4_p NF i1 (0 : Int32) (0 : Int32) hf
theorem X_pendingMask_pay {C : Ctx} {top : Nat} {a : Nat} {H : List (Nat × Nat × Rec)} {ob : Rec} {res : Int32} {NF : Nat} {i1 : Int32} (hf : X_pendingMask NF ob i1 = some res) : Pays C B8 [.ref a, .int i1] (top, (a, 17, ob) :: H) (Ans (some (.int res)) (top, (a, 17, ob) :: H)) :=
  Pays.of pnK (Nat.le_of_ble_eq_true rfl) (P := [vr a, vi i1, vn, vn]) 2 rfl (X_pendingMask_p i1 hf)
def X_commitClause (NF : Nat) (ob : Rec) : Option (Int32 × Rec) :=
  if (gI ob 5) < (24 : Int32) then
    if (gI ob 7) < (40 : Int32) then
      (X_pendingMask NF ob (0 : Int32)).bind fun r3 =>
      chk (24 : Int32) (gI ob 5) <|
      (X_pendingMask NF (sA ob 2 (gI ob 5) r3) (1 : Int32)).bind fun r6 =>
      chk (24 : Int32) (gI ob 5) <|
      (X_pushOrder (sI (sA (sA ob 2 (gI ob 5) r3) 3 (gI ob 5) r6) 5 ((gI ob 5) + (1 : Int32))) (1 : Int32)).bind fun q9 =>
      some ((gI ob 5), (sI (sI q9 4 (0 : Int32)) 2 (2 : Int32)))
    else
      some ((-2 : Int32), ob)
  else
    some ((-2 : Int32), ob)
set_option maxRecDepth 65536 in
set_option maxHeartbeats 4000000 in
theorem X_commitClause_p {C : Ctx} {top : Nat} {a : Nat} {H : List (Nat × Nat × Rec)} {res : Int32 × Rec} {NF : Nat} (ob : Rec) (hf : X_commitClause NF ob = some res) : Runs C B7 0 0 0 [vr a, vn] [] (top, (a, 17, ob) :: H) (Ans (some (.int res.1)) (top, (a, 17, res.2) :: H)) := by
  delta X_commitClause at hf
  refine Runs.aloadN d7_0 rfl <| Runs.getI d7_1 w55 fS_5 <| Runs.bipush d7_4 cb_24 <| ?_
  refine ite_el hf (fun hc1 hf => ?_) (fun hc1 hf => ?_)
  · refine Runs.icY (pc' := 12) d7_6 (tlt hc1).1 (by decide) <| ?_
    refine Runs.aloadN d7_12 rfl <| Runs.getI d7_13 w59 fS_7 <| Runs.bipush d7_16 cb_40 <| ?_
    refine ite_el hf (fun hc2 hf => ?_) (fun hc2 hf => ?_)
    · refine Runs.icY (pc' := 24) d7_18 (tlt hc2).1 (by decide) <| ?_
      refine Runs.aloadN d7_24 rfl <| Runs.getI d7_25 w55 fS_5 <| Runs.istoreN (P' := [vr a, vi (gI ob 5)]) d7_28 (by decide) rfl <| Runs.aloadN d7_29 rfl <| Runs.getA d7_30 fA_2 w15 (by decide) <| Runs.iloadN d7_33 rfl <| Runs.aloadN d7_34 rfl <| Runs.iconst d7_35 ci_0 <| ?_
      refine bind_el hf fun r3 hg4 hf => ?_
      refine Runs.callP (N := B8) (W := 2) (as := [.int (0 : Int32)]) (S' := [.int (gI ob 5), .ref (a + 1 + 2)]) d7_36 w94 w95 w96 rfl cw8 ar8 rk7_8_2 (by decide) rfl rfl (X_pendingMask_pay hg4) <| ans1 <| ?_
      refine chk_el hf fun hi5 hf => ?_
      refine Runs.iastoreA d7_39 fA_2 (by decide) hi5 <| Runs.aloadN d7_40 rfl <| Runs.getA d7_41 fA_3 w17 (by decide) <| Runs.iloadN d7_44 rfl <| Runs.aloadN d7_45 rfl <| Runs.iconst d7_46 ci_1 <| ?_
      refine bind_el hf fun r6 hg7 hf => ?_
      refine Runs.callP (N := B8) (W := 2) (as := [.int (1 : Int32)]) (S' := [.int (gI ob 5), .ref (a + 1 + 3)]) d7_47 w94 w95 w96 rfl cw8 ar8 rk7_8_2 (by decide) rfl rfl (X_pendingMask_pay hg7) <| ans1 <| ?_
      refine chk_el hf fun hi8 hf => ?_
      refine Runs.iastoreA d7_50 fA_3 (by decide) hi8 <| Runs.aloadN d7_51 rfl <| Runs.dup d7_52 rfl <| Runs.getI d7_53 w55 fS_5 <| Runs.iconst d7_56 ci_1 <| Runs.iadd d7_57 <| Runs.putI d7_58 w55 fS_5 (Or.inl w56) <| Runs.aloadN d7_61 rfl <| Runs.iconst d7_62 ci_1 <| ?_
      refine bind_el hf fun q9 hg10 hf => ?_
      obtain rfl := Option.some.inj hf
      exact Runs.callP (N := B6) (W := 0) (as := [.int (1 : Int32)]) (S' := []) d7_63 w85 w86 w87 rfl cw6 ar6 rk7_6_0 (by decide) rfl rfl (X_pushOrder_pay hg10) <| ans0 <| Runs.aloadN d7_66 rfl <| Runs.iconst d7_67 ci_0 <| Runs.putI d7_68 w53 fS_4 (Or.inl w54) <| Runs.aloadN d7_71 rfl <| Runs.iconst d7_72 ci_2 <| Runs.putI d7_73 w49 fS_2 (Or.inl w50) <| Runs.iloadN d7_76 rfl <| Runs.retI d7_77 rfl ⟨by decide, by decide⟩ ⟨rfl, rfl⟩
    · refine Runs.icN d7_18 (flt hc2).1 <| ?_
      obtain rfl := Option.some.inj hf
      exact Runs.bipush d7_21 cb_m2 <| Runs.retI d7_23 rfl ⟨by decide, by decide⟩ ⟨rfl, rfl⟩
  · refine Runs.icN d7_6 (flt hc1).1 <| ?_
    obtain rfl := Option.some.inj hf
    exact Runs.bipush d7_9 cb_m2 <| Runs.retI d7_11 rfl ⟨by decide, by decide⟩ ⟨rfl, rfl⟩
theorem X_commitClause_pay {C : Ctx} {top : Nat} {a : Nat} {H : List (Nat × Nat × Rec)} {res : Int32 × Rec} {NF : Nat} {ob : Rec} (hf : X_commitClause NF ob = some res) : Pays C B7 [.ref a] (top, (a, 17, ob) :: H) (Ans (some (.int res.1)) (top, (a, 17, res.2) :: H)) :=
  Pays.of pnK (Nat.le_of_ble_eq_true rfl) (P := [vr a, vn]) 1 rfl (X_commitClause_p ob hf)
def X_findPivot_w9 (NF : Nat) (ob : Rec) (k9 : Int32 → Int32 → Option (Int32)) (i2 : Int32) (i3 : Int32) : Option (Int32) :=
  if i3 < (gI ob 11) then
    if i3 < (16 : Int32) then
      if i3 < (0 : Int32) then
        k9 i2 (i3 + (1 : Int32))
      else
        chk (16 : Int32) i3 <|
        if ((gA ob 10 i3) &&& i2) = (0 : Int32) then
          k9 i2 (i3 + (1 : Int32))
        else
          some i3
    else
      some (-1 : Int32)
  else
    some (-1 : Int32)
def X_findPivot_l9 (NF : Nat) (ob : Rec) : Nat → Int32 → Int32 → Option (Int32)
  | 0, _, _ => none
  | n + 1, i2, i3 => X_findPivot_w9 NF ob (X_findPivot_l9 NF ob n) i2 i3
set_option maxRecDepth 65536 in
set_option maxHeartbeats 4000000 in
theorem X_findPivot_w9_p {C : Ctx} {top : Nat} {a : Nat} {H : List (Nat × Nat × Rec)} {ob : Rec} {res : Int32} {NF : Nat} (k9 : Int32 → Int32 → Option (Int32)) (hk9 : ∀ (i2 : Int32) (i3 : Int32), k9 i2 i3 = some res → Runs C B13 0 0 9 [vr a, vn, vi i2, vi i3] [] (top, (a, 17, ob) :: H) (Ans (some (.int res)) (top, (a, 17, ob) :: H))) (i2 : Int32) (i3 : Int32) (hf : X_findPivot_w9 NF ob k9 i2 i3 = some res) : Runs C B13 0 0 9 [vr a, vn, vi i2, vi i3] [] (top, (a, 17, ob) :: H) (Ans (some (.int res)) (top, (a, 17, ob) :: H)) := by
  delta X_findPivot_w9 at hf
  refine Runs.iloadN d13_9 rfl <| Runs.aloadN d13_10 rfl <| Runs.getI d13_11 w111 fS_11 <| ?_
  refine ite_el hf (fun hc1 hf => ?_) (fun hc1 hf => ?_)
  · refine Runs.icN d13_14 (tlt hc1).2.1 <| ?_
    refine Runs.iloadN d13_17 rfl <| Runs.bipush d13_18 cb_16 <| ?_
    refine ite_el hf (fun hc2 hf => ?_) (fun hc2 hf => ?_)
    · refine Runs.icN d13_20 (tlt hc2).2.1 <| ?_
      refine Runs.iloadN d13_23 rfl <| ?_
      refine ite_el hf (fun hc3 hf => ?_) (fun hc3 hf => ?_)
      · refine Runs.ifY (pc' := 40) d13_24 (tlt hc3).1 (by decide) <| ?_
        exact Runs.iinc (P' := [vr a, vn, vi i2, vi (i3 + (1 : Int32))]) d13_40 ci_1 rfl (by decide) rfl <| Runs.goto (pc' := 9) d13_43 (by decide) <| hk9 i2 (i3 + (1 : Int32)) hf
      · refine Runs.ifN d13_24 (flt hc3).1 <| ?_
        refine Runs.aloadN d13_27 rfl <| Runs.getA d13_28 fA_10 w31 (by decide) <| Runs.iloadN d13_31 rfl <| ?_
        refine chk_el hf fun hi4 hf => ?_
        refine Runs.ialoadA d13_32 fA_10 (by decide) hi4 <| Runs.iloadN d13_33 rfl <| Runs.iand d13_34 <| ?_
        refine ite_el hf (fun hc5 hf => ?_) (fun hc5 hf => ?_)
        · refine Runs.ifY (pc' := 40) d13_35 (teq hc5).1 (by decide) <| ?_
          exact Runs.iinc (P' := [vr a, vn, vi i2, vi (i3 + (1 : Int32))]) d13_40 ci_1 rfl (by decide) rfl <| Runs.goto (pc' := 9) d13_43 (by decide) <| hk9 i2 (i3 + (1 : Int32)) hf
        · refine Runs.ifN d13_35 (feq hc5).1 <| ?_
          obtain rfl := Option.some.inj hf
          exact Runs.iloadN d13_38 rfl <| Runs.retI d13_39 rfl ⟨by decide, by decide⟩ ⟨rfl, rfl⟩
    · refine Runs.icY (pc' := 46) d13_20 (flt hc2).2.1 (by decide) <| ?_
      obtain rfl := Option.some.inj hf
      exact Runs.iconst d13_46 ci_m1 <| Runs.retI d13_47 rfl ⟨by decide, by decide⟩ ⟨rfl, rfl⟩
  · refine Runs.icY (pc' := 46) d13_14 (flt hc1).2.1 (by decide) <| ?_
    obtain rfl := Option.some.inj hf
    exact Runs.iconst d13_46 ci_m1 <| Runs.retI d13_47 rfl ⟨by decide, by decide⟩ ⟨rfl, rfl⟩
theorem X_findPivot_l9_p {C : Ctx} {top : Nat} {a : Nat} {H : List (Nat × Nat × Rec)} {ob : Rec} {res : Int32} {NF : Nat} (n : Nat) (i2 : Int32) (i3 : Int32) (hf : X_findPivot_l9 NF ob n i2 i3 = some res) : Runs C B13 0 0 9 [vr a, vn, vi i2, vi i3] [] (top, (a, 17, ob) :: H) (Ans (some (.int res)) (top, (a, 17, ob) :: H)) := by
  induction n generalizing i2 i3 with
  | zero => cases (show (none : Option (Int32)) = some res from hf)
  | succ n ih => exact X_findPivot_w9_p (X_findPivot_l9 NF ob n) (fun i2 i3 h => ih _ _ h) i2 i3 hf
def X_findPivot (NF : Nat) (ob : Rec) (i1 : Int32) : Option (Int32) :=
  X_findPivot_l9 NF ob NF ((1 : Int32) <<< (i1 &&& 31)) (gI ob 12)
set_option maxRecDepth 65536 in
set_option maxHeartbeats 4000000 in
theorem X_findPivot_p {C : Ctx} {top : Nat} {a : Nat} {H : List (Nat × Nat × Rec)} {ob : Rec} {res : Int32} {NF : Nat} (i1 : Int32) (hf : X_findPivot NF ob i1 = some res) : Runs C B13 0 0 0 [vr a, vi i1, vn, vn] [] (top, (a, 17, ob) :: H) (Ans (some (.int res)) (top, (a, 17, ob) :: H)) := by
  delta X_findPivot at hf
  exact Runs.iconst d13_0 ci_1 <| Runs.iloadN d13_1 rfl <| Runs.ishl d13_2 <| Runs.istoreN (P' := [vr a, vi i1, vi ((1 : Int32) <<< (i1 &&& 31)), vn]) d13_3 (by decide) rfl <| Runs.aloadN d13_4 rfl <| Runs.getI d13_5 w117 fS_12 <| Runs.istoreN (P' := [vr a, vi i1, vi ((1 : Int32) <<< (i1 &&& 31)), vi (gI ob 12)]) d13_8 (by decide) rfl <| Runs.forget [true, false, true, true] rfl <| X_findPivot_l9_p NF ((1 : Int32) <<< (i1 &&& 31)) (gI ob 12) hf
theorem X_findPivot_pay {C : Ctx} {top : Nat} {a : Nat} {H : List (Nat × Nat × Rec)} {ob : Rec} {res : Int32} {NF : Nat} {i1 : Int32} (hf : X_findPivot NF ob i1 = some res) : Pays C B13 [.ref a, .int i1] (top, (a, 17, ob) :: H) (Ans (some (.int res)) (top, (a, 17, ob) :: H)) :=
  Pays.of pnK (Nat.le_of_ble_eq_true rfl) (P := [vr a, vi i1, vn, vn]) 2 rfl (X_findPivot_p i1 hf)
def X_swapRows (ob : Rec) (i1 : Int32) (i2 : Int32) : Option (Rec) :=
  if i1 = i2 then
    some ob
  else
    if i1 < (0 : Int32) then
      some ob
    else
      if i2 < (0 : Int32) then
        some ob
      else
        if i1 < (16 : Int32) then
          if i2 < (16 : Int32) then
            chk (16 : Int32) i1 <|
            chk (16 : Int32) i2 <|
            chk (16 : Int32) i1 <|
            chk (16 : Int32) i2 <|
            chk (16 : Int32) i1 <|
            chk (16 : Int32) i2 <|
            chk (16 : Int32) i1 <|
            chk (16 : Int32) i2 <|
            some (sA (sA (sA (sA ob 10 i1 (gA ob 10 i2)) 10 i2 (gA ob 10 i1)) 11 i1 (gA ob 11 i2)) 11 i2 (gA ob 11 i1))
          else
            some ob
        else
          some ob
set_option maxRecDepth 65536 in
set_option maxHeartbeats 4000000 in
theorem X_swapRows_p {C : Ctx} {top : Nat} {a : Nat} {H : List (Nat × Nat × Rec)} {res : Rec} (ob : Rec) (i1 : Int32) (i2 : Int32) (hf : X_swapRows ob i1 i2 = some res) : Runs C B14 0 0 0 [vr a, vi i1, vi i2, vn, vn] [] (top, (a, 17, ob) :: H) (Ans none (top, (a, 17, res) :: H)) := by
  delta X_swapRows at hf
  refine Runs.iloadN d14_0 rfl <| Runs.iloadN d14_1 rfl <| ?_
  refine ite_el hf (fun hc1 hf => ?_) (fun hc1 hf => ?_)
  · refine Runs.icY (pc' := 25) d14_2 (teq hc1).1 (by decide) <| ?_
    obtain rfl := Option.some.inj hf
    exact Runs.retV d14_25 rfl ⟨by decide, by decide⟩ ⟨rfl, rfl⟩
  · refine Runs.icN d14_2 (feq hc1).1 <| ?_
    refine Runs.iloadN d14_5 rfl <| ?_
    refine ite_el hf (fun hc2 hf => ?_) (fun hc2 hf => ?_)
    · refine Runs.ifY (pc' := 25) d14_6 (tlt hc2).1 (by decide) <| ?_
      obtain rfl := Option.some.inj hf
      exact Runs.retV d14_25 rfl ⟨by decide, by decide⟩ ⟨rfl, rfl⟩
    · refine Runs.ifN d14_6 (flt hc2).1 <| ?_
      refine Runs.iloadN d14_9 rfl <| ?_
      refine ite_el hf (fun hc3 hf => ?_) (fun hc3 hf => ?_)
      · refine Runs.ifY (pc' := 25) d14_10 (tlt hc3).1 (by decide) <| ?_
        obtain rfl := Option.some.inj hf
        exact Runs.retV d14_25 rfl ⟨by decide, by decide⟩ ⟨rfl, rfl⟩
      · refine Runs.ifN d14_10 (flt hc3).1 <| ?_
        refine Runs.iloadN d14_13 rfl <| Runs.bipush d14_14 cb_16 <| ?_
        refine ite_el hf (fun hc4 hf => ?_) (fun hc4 hf => ?_)
        · refine Runs.icN d14_16 (tlt hc4).2.1 <| ?_
          refine Runs.iloadN d14_19 rfl <| Runs.bipush d14_20 cb_16 <| ?_
          refine ite_el hf (fun hc5 hf => ?_) (fun hc5 hf => ?_)
          · refine Runs.icY (pc' := 26) d14_22 (tlt hc5).1 (by decide) <| ?_
            refine Runs.aloadN d14_26 rfl <| Runs.getA d14_27 fA_10 w31 (by decide) <| Runs.iloadN d14_30 rfl <| ?_
            refine chk_el hf fun hi6 hf => ?_
            refine Runs.ialoadA d14_31 fA_10 (by decide) hi6 <| Runs.istoreN (P' := [vr a, vi i1, vi i2, vi (gA ob 10 i1), vn]) d14_32 (by decide) rfl <| Runs.aloadN d14_33 rfl <| Runs.getA d14_34 fA_10 w31 (by decide) <| Runs.iloadN d14_37 rfl <| Runs.aloadN d14_38 rfl <| Runs.getA d14_39 fA_10 w31 (by decide) <| Runs.iloadN d14_42 rfl <| ?_
            refine chk_el hf fun hi7 hf => ?_
            refine Runs.ialoadA d14_43 fA_10 (by decide) hi7 <| ?_
            refine chk_el hf fun hi8 hf => ?_
            refine Runs.iastoreA d14_44 fA_10 (by decide) hi8 <| Runs.aloadN d14_45 rfl <| Runs.getA d14_46 fA_10 w31 (by decide) <| Runs.iloadN d14_49 rfl <| Runs.iloadN d14_50 rfl <| ?_
            refine chk_el hf fun hi9 hf => ?_
            refine Runs.iastoreA d14_51 fA_10 (by decide) hi9 <| Runs.aloadN d14_52 rfl <| Runs.getA d14_53 fA_11 w33 (by decide) <| Runs.iloadN d14_56 rfl <| ?_
            refine chk_el hf fun hi10 hf => ?_
            refine Runs.ialoadA d14_57 fA_11 (by decide) hi10 <| Runs.istore (P' := [vr a, vi i1, vi i2, vi (gA ob 10 i1), vi (gA ob 11 i1)]) d14_58 (by decide) rfl <| Runs.aloadN d14_60 rfl <| Runs.getA d14_61 fA_11 w33 (by decide) <| Runs.iloadN d14_64 rfl <| Runs.aloadN d14_65 rfl <| Runs.getA d14_66 fA_11 w33 (by decide) <| Runs.iloadN d14_69 rfl <| ?_
            refine chk_el hf fun hi11 hf => ?_
            refine Runs.ialoadA d14_70 fA_11 (by decide) hi11 <| ?_
            refine chk_el hf fun hi12 hf => ?_
            refine Runs.iastoreA d14_71 fA_11 (by decide) hi12 <| Runs.aloadN d14_72 rfl <| Runs.getA d14_73 fA_11 w33 (by decide) <| Runs.iloadN d14_76 rfl <| Runs.iload d14_77 rfl <| ?_
            refine chk_el hf fun hi13 hf => ?_
            obtain rfl := Option.some.inj hf
            exact Runs.iastoreA d14_79 fA_11 (by decide) hi13 <| Runs.retV d14_80 rfl ⟨by decide, by decide⟩ ⟨rfl, rfl⟩
          · refine Runs.icN d14_22 (flt hc5).1 <| ?_
            obtain rfl := Option.some.inj hf
            exact Runs.retV d14_25 rfl ⟨by decide, by decide⟩ ⟨rfl, rfl⟩
        · refine Runs.icY (pc' := 25) d14_16 (flt hc4).2.1 (by decide) <| ?_
          obtain rfl := Option.some.inj hf
          exact Runs.retV d14_25 rfl ⟨by decide, by decide⟩ ⟨rfl, rfl⟩
theorem X_swapRows_pay {C : Ctx} {top : Nat} {a : Nat} {H : List (Nat × Nat × Rec)} {res : Rec} {ob : Rec} {i1 : Int32} {i2 : Int32} (hf : X_swapRows ob i1 i2 = some res) : Pays C B14 [.ref a, .int i1, .int i2] (top, (a, 17, ob) :: H) (Ans none (top, (a, 17, res) :: H)) :=
  Pays.of pnK (Nat.le_of_ble_eq_true rfl) (P := [vr a, vi i1, vi i2, vn, vn]) 2 rfl (X_swapRows_p ob i1 i2 hf)
def X_clearColumn_w18 (NF : Nat) (k18 : Rec → Int32 → Int32 → Int32 → Option (Rec)) (ob : Rec) (i2 : Int32) (i3 : Int32) (i4 : Int32) : Option (Rec) :=
  if i4 < (gI ob 11) then
    if i4 < (16 : Int32) then
      if i4 = i2 then
        k18 ob i2 i3 (i4 + (1 : Int32))
      else
        chk (16 : Int32) i4 <|
        if ((gA ob 10 i4) &&& i3) = (0 : Int32) then
          k18 ob i2 i3 (i4 + (1 : Int32))
        else
          chk (16 : Int32) i4 <|
          chk (16 : Int32) i2 <|
          chk (16 : Int32) i4 <|
          chk (16 : Int32) i4 <|
          chk (16 : Int32) i2 <|
          chk (16 : Int32) i4 <|
          k18 (sA (sA ob 10 i4 ((gA ob 10 i4) ^^^ (gA ob 10 i2))) 11 i4 ((gA ob 11 i4) ^^^ (gA ob 11 i2))) i2 i3 (i4 + (1 : Int32))
    else
      some ob
  else
    some ob
def X_clearColumn_l18 (NF : Nat) : Nat → Rec → Int32 → Int32 → Int32 → Option (Rec)
  | 0, _, _, _, _ => none
  | n + 1, ob, i2, i3, i4 => X_clearColumn_w18 NF (X_clearColumn_l18 NF n) ob i2 i3 i4
set_option maxRecDepth 65536 in
set_option maxHeartbeats 4000000 in
theorem X_clearColumn_w18_p {C : Ctx} {top : Nat} {a : Nat} {H : List (Nat × Nat × Rec)} {res : Rec} {NF : Nat} (k18 : Rec → Int32 → Int32 → Int32 → Option (Rec)) (hk18 : ∀ (ob : Rec) (i2 : Int32) (i3 : Int32) (i4 : Int32), k18 ob i2 i3 i4 = some res → Runs C B15 0 0 18 [vr a, vn, vi i2, vi i3, vi i4] [] (top, (a, 17, ob) :: H) (Ans none (top, (a, 17, res) :: H))) (ob : Rec) (i2 : Int32) (i3 : Int32) (i4 : Int32) (hf : X_clearColumn_w18 NF k18 ob i2 i3 i4 = some res) : Runs C B15 0 0 18 [vr a, vn, vi i2, vi i3, vi i4] [] (top, (a, 17, ob) :: H) (Ans none (top, (a, 17, res) :: H)) := by
  delta X_clearColumn_w18 at hf
  refine Runs.iload d15_18 rfl <| Runs.aloadN d15_20 rfl <| Runs.getI d15_21 w111 fS_11 <| ?_
  refine ite_el hf (fun hc1 hf => ?_) (fun hc1 hf => ?_)
  · refine Runs.icN d15_24 (tlt hc1).2.1 <| ?_
    refine Runs.iload d15_27 rfl <| Runs.bipush d15_29 cb_16 <| ?_
    refine ite_el hf (fun hc2 hf => ?_) (fun hc2 hf => ?_)
    · refine Runs.icN d15_31 (tlt hc2).2.1 <| ?_
      refine Runs.iload d15_34 rfl <| Runs.iloadN d15_36 rfl <| ?_
      refine ite_el hf (fun hc3 hf => ?_) (fun hc3 hf => ?_)
      · refine Runs.icY (pc' := 84) d15_37 (teq hc3).1 (by decide) <| ?_
        exact Runs.iinc (P' := [vr a, vn, vi i2, vi i3, vi (i4 + (1 : Int32))]) d15_84 ci_1 rfl (by decide) rfl <| Runs.goto (pc' := 18) d15_87 (by decide) <| hk18 ob i2 i3 (i4 + (1 : Int32)) hf
      · refine Runs.icN d15_37 (feq hc3).1 <| ?_
        refine Runs.aloadN d15_40 rfl <| Runs.getA d15_41 fA_10 w31 (by decide) <| Runs.iload d15_44 rfl <| ?_
        refine chk_el hf fun hi4 hf => ?_
        refine Runs.ialoadA d15_46 fA_10 (by decide) hi4 <| Runs.iloadN d15_47 rfl <| Runs.iand d15_48 <| ?_
        refine ite_el hf (fun hc5 hf => ?_) (fun hc5 hf => ?_)
        · refine Runs.ifY (pc' := 84) d15_49 (teq hc5).1 (by decide) <| ?_
          exact Runs.iinc (P' := [vr a, vn, vi i2, vi i3, vi (i4 + (1 : Int32))]) d15_84 ci_1 rfl (by decide) rfl <| Runs.goto (pc' := 18) d15_87 (by decide) <| hk18 ob i2 i3 (i4 + (1 : Int32)) hf
        · refine Runs.ifN d15_49 (feq hc5).1 <| ?_
          refine Runs.aloadN d15_52 rfl <| Runs.getA d15_53 fA_10 w31 (by decide) <| Runs.iload d15_56 rfl <| Runs.dup2 d15_58 rfl rfl <| ?_
          refine chk_el hf fun hi6 hf => ?_
          refine Runs.ialoadA d15_59 fA_10 (by decide) hi6 <| Runs.aloadN d15_60 rfl <| Runs.getA d15_61 fA_10 w31 (by decide) <| Runs.iloadN d15_64 rfl <| ?_
          refine chk_el hf fun hi7 hf => ?_
          refine Runs.ialoadA d15_65 fA_10 (by decide) hi7 <| Runs.ixor d15_66 <| ?_
          refine chk_el hf fun hi8 hf => ?_
          refine Runs.iastoreA d15_67 fA_10 (by decide) hi8 <| Runs.aloadN d15_68 rfl <| Runs.getA d15_69 fA_11 w33 (by decide) <| Runs.iload d15_72 rfl <| Runs.dup2 d15_74 rfl rfl <| ?_
          refine chk_el hf fun hi9 hf => ?_
          refine Runs.ialoadA d15_75 fA_11 (by decide) hi9 <| Runs.aloadN d15_76 rfl <| Runs.getA d15_77 fA_11 w33 (by decide) <| Runs.iloadN d15_80 rfl <| ?_
          refine chk_el hf fun hi10 hf => ?_
          refine Runs.ialoadA d15_81 fA_11 (by decide) hi10 <| Runs.ixor d15_82 <| ?_
          refine chk_el hf fun hi11 hf => ?_
          exact Runs.iastoreA d15_83 fA_11 (by decide) hi11 <| Runs.iinc (P' := [vr a, vn, vi i2, vi i3, vi (i4 + (1 : Int32))]) d15_84 ci_1 rfl (by decide) rfl <| Runs.goto (pc' := 18) d15_87 (by decide) <| hk18 (sA (sA ob 10 i4 ((gA ob 10 i4) ^^^ (gA ob 10 i2))) 11 i4 ((gA ob 11 i4) ^^^ (gA ob 11 i2))) i2 i3 (i4 + (1 : Int32)) hf
    · refine Runs.icY (pc' := 90) d15_31 (flt hc2).2.1 (by decide) <| ?_
      obtain rfl := Option.some.inj hf
      exact Runs.retV d15_90 rfl ⟨by decide, by decide⟩ ⟨rfl, rfl⟩
  · refine Runs.icY (pc' := 90) d15_24 (flt hc1).2.1 (by decide) <| ?_
    obtain rfl := Option.some.inj hf
    exact Runs.retV d15_90 rfl ⟨by decide, by decide⟩ ⟨rfl, rfl⟩
theorem X_clearColumn_l18_p {C : Ctx} {top : Nat} {a : Nat} {H : List (Nat × Nat × Rec)} {res : Rec} {NF : Nat} (n : Nat) (ob : Rec) (i2 : Int32) (i3 : Int32) (i4 : Int32) (hf : X_clearColumn_l18 NF n ob i2 i3 i4 = some res) : Runs C B15 0 0 18 [vr a, vn, vi i2, vi i3, vi i4] [] (top, (a, 17, ob) :: H) (Ans none (top, (a, 17, res) :: H)) := by
  induction n generalizing ob i2 i3 i4 with
  | zero => cases (show (none : Option (Rec)) = some res from hf)
  | succ n ih => exact X_clearColumn_w18_p (X_clearColumn_l18 NF n) (fun ob i2 i3 i4 h => ih _ _ _ _ h) ob i2 i3 i4 hf
def X_clearColumn (NF : Nat) (ob : Rec) (i1 : Int32) (i2 : Int32) : Option (Rec) :=
  if i2 < (0 : Int32) then
    some ob
  else
    if i2 < (16 : Int32) then
      X_clearColumn_l18 NF NF ob i2 ((1 : Int32) <<< (i1 &&& 31)) (0 : Int32)
    else
      some ob
set_option maxRecDepth 65536 in
set_option maxHeartbeats 4000000 in
theorem X_clearColumn_p {C : Ctx} {top : Nat} {a : Nat} {H : List (Nat × Nat × Rec)} {res : Rec} {NF : Nat} (ob : Rec) (i1 : Int32) (i2 : Int32) (hf : X_clearColumn NF ob i1 i2 = some res) : Runs C B15 0 0 0 [vr a, vi i1, vi i2, vn, vn] [] (top, (a, 17, ob) :: H) (Ans none (top, (a, 17, res) :: H)) := by
  delta X_clearColumn at hf
  refine Runs.iloadN d15_0 rfl <| ?_
  refine ite_el hf (fun hc12 hf => ?_) (fun hc12 hf => ?_)
  · refine Runs.ifY (pc' := 10) d15_1 (tlt hc12).1 (by decide) <| ?_
    obtain rfl := Option.some.inj hf
    exact Runs.retV d15_10 rfl ⟨by decide, by decide⟩ ⟨rfl, rfl⟩
  · refine Runs.ifN d15_1 (flt hc12).1 <| ?_
    refine Runs.iloadN d15_4 rfl <| Runs.bipush d15_5 cb_16 <| ?_
    refine ite_el hf (fun hc13 hf => ?_) (fun hc13 hf => ?_)
    · refine Runs.icY (pc' := 11) d15_7 (tlt hc13).1 (by decide) <| ?_
      exact Runs.iconst d15_11 ci_1 <| Runs.iloadN d15_12 rfl <| Runs.ishl d15_13 <| Runs.istoreN (P' := [vr a, vi i1, vi i2, vi ((1 : Int32) <<< (i1 &&& 31)), vn]) d15_14 (by decide) rfl <| Runs.iconst d15_15 ci_0 <| Runs.istore (P' := [vr a, vi i1, vi i2, vi ((1 : Int32) <<< (i1 &&& 31)), vi (0 : Int32)]) d15_16 (by decide) rfl <| Runs.forget [true, false, true, true, true] rfl <| X_clearColumn_l18_p NF ob i2 ((1 : Int32) <<< (i1 &&& 31)) (0 : Int32) hf
    · refine Runs.icN d15_7 (flt hc13).1 <| ?_
      obtain rfl := Option.some.inj hf
      exact Runs.retV d15_10 rfl ⟨by decide, by decide⟩ ⟨rfl, rfl⟩
theorem X_clearColumn_pay {C : Ctx} {top : Nat} {a : Nat} {H : List (Nat × Nat × Rec)} {res : Rec} {NF : Nat} {ob : Rec} {i1 : Int32} {i2 : Int32} (hf : X_clearColumn NF ob i1 i2 = some res) : Pays C B15 [.ref a, .int i1, .int i2] (top, (a, 17, ob) :: H) (Ans none (top, (a, 17, res) :: H)) :=
  Pays.of pnK (Nat.le_of_ble_eq_true rfl) (P := [vr a, vi i1, vi i2, vn, vn]) 2 rfl (X_clearColumn_p ob i1 i2 hf)
def X_eliminate_w7 (NF : Nat) (k7 : Rec → Int32 → Option (Rec)) (ob : Rec) (i1 : Int32) : Option (Rec) :=
  if i1 < (gI ob 0) then
    if i1 < (12 : Int32) then
      (X_findPivot NF ob i1).bind fun r3 =>
      if r3 < (0 : Int32) then
        k7 ob (i1 + (1 : Int32))
      else
        if (gI ob 12) < (16 : Int32) then
          (X_swapRows ob r3 (gI ob 12)).bind fun q7 =>
          (X_clearColumn NF q7 i1 (gI q7 12)).bind fun q9 =>
          chk (16 : Int32) (gI q9 12) <|
          k7 (sI (sA q9 12 (gI q9 12) i1) 12 ((gI q9 12) + (1 : Int32))) (i1 + (1 : Int32))
        else
          k7 ob (i1 + (1 : Int32))
    else
      some ob
  else
    some ob
def X_eliminate_l7 (NF : Nat) : Nat → Rec → Int32 → Option (Rec)
  | 0, _, _ => none
  | n + 1, ob, i1 => X_eliminate_w7 NF (X_eliminate_l7 NF n) ob i1
set_option maxRecDepth 65536 in
set_option maxHeartbeats 4000000 in
theorem X_eliminate_w7_p {C : Ctx} {top : Nat} {a : Nat} {H : List (Nat × Nat × Rec)} {res : Rec} {NF : Nat} (k7 : Rec → Int32 → Option (Rec)) (hk7 : ∀ (ob : Rec) (i1 : Int32), k7 ob i1 = some res → Runs C B12 0 0 7 [vr a, vi i1, vn] [] (top, (a, 17, ob) :: H) (Ans none (top, (a, 17, res) :: H))) (ob : Rec) (i1 : Int32) (hf : X_eliminate_w7 NF k7 ob i1 = some res) : Runs C B12 0 0 7 [vr a, vi i1, vn] [] (top, (a, 17, ob) :: H) (Ans none (top, (a, 17, res) :: H)) := by
  delta X_eliminate_w7 at hf
  refine Runs.iloadN d12_7 rfl <| Runs.aloadN d12_8 rfl <| Runs.getI d12_9 w45 fS_0 <| ?_
  refine ite_el hf (fun hc1 hf => ?_) (fun hc1 hf => ?_)
  · refine Runs.icN d12_12 (tlt hc1).2.1 <| ?_
    refine Runs.iloadN d12_15 rfl <| Runs.bipush d12_16 cb_12 <| ?_
    refine ite_el hf (fun hc2 hf => ?_) (fun hc2 hf => ?_)
    · refine Runs.icN d12_18 (tlt hc2).2.1 <| ?_
      refine Runs.aloadN d12_21 rfl <| Runs.iloadN d12_22 rfl <| ?_
      refine bind_el hf fun r3 hg4 hf => ?_
      refine Runs.callP (N := B13) (W := 0) (as := [.int i1]) (S' := []) d12_23 w119 w120 w121 rfl cw13 ar13 rk12_13_0 (by decide) rfl rfl (X_findPivot_pay hg4) <| ans1 <| Runs.istoreN (P' := [vr a, vi i1, vi r3]) d12_26 (by decide) rfl <| Runs.iloadN d12_27 rfl <| ?_
      refine ite_el hf (fun hc5 hf => ?_) (fun hc5 hf => ?_)
      · refine Runs.ifY (pc' := 78) d12_28 (tlt hc5).1 (by decide) <| ?_
        exact Runs.iinc (P' := [vr a, vi (i1 + (1 : Int32)), vi r3]) d12_78 ci_1 rfl (by decide) rfl <| Runs.goto (pc' := 7) d12_81 (by decide) <| Runs.forget [true, true, false] rfl <| hk7 ob (i1 + (1 : Int32)) hf
      · refine Runs.ifN d12_28 (flt hc5).1 <| ?_
        refine Runs.aloadN d12_31 rfl <| Runs.getI d12_32 w117 fS_12 <| Runs.bipush d12_35 cb_16 <| ?_
        refine ite_el hf (fun hc6 hf => ?_) (fun hc6 hf => ?_)
        · refine Runs.icN d12_37 (tlt hc6).2.1 <| ?_
          refine Runs.aloadN d12_40 rfl <| Runs.iloadN d12_41 rfl <| Runs.aloadN d12_42 rfl <| Runs.getI d12_43 w117 fS_12 <| ?_
          refine bind_el hf fun q7 hg8 hf => ?_
          refine Runs.callP (N := B14) (W := 0) (as := [.int r3, .int (gI ob 12)]) (S' := []) d12_46 w123 w124 w125 rfl cw14 ar14 rk12_14_0 (by decide) rfl rfl (X_swapRows_pay hg8) <| ans0 <| Runs.aloadN d12_49 rfl <| Runs.iloadN d12_50 rfl <| Runs.aloadN d12_51 rfl <| Runs.getI d12_52 w117 fS_12 <| ?_
          refine bind_el hf fun q9 hg10 hf => ?_
          refine Runs.callP (N := B15) (W := 0) (as := [.int i1, .int (gI q7 12)]) (S' := []) d12_55 w127 w128 w129 rfl cw15 ar15 rk12_15_0 (by decide) rfl rfl (X_clearColumn_pay hg10) <| ans0 <| Runs.aloadN d12_58 rfl <| Runs.getA d12_59 fA_12 w35 (by decide) <| Runs.aloadN d12_62 rfl <| Runs.getI d12_63 w117 fS_12 <| Runs.iloadN d12_66 rfl <| ?_
          refine chk_el hf fun hi11 hf => ?_
          exact Runs.iastoreA d12_67 fA_12 (by decide) hi11 <| Runs.aloadN d12_68 rfl <| Runs.dup d12_69 rfl <| Runs.getI d12_70 w117 fS_12 <| Runs.iconst d12_73 ci_1 <| Runs.iadd d12_74 <| Runs.putI d12_75 w117 fS_12 (Or.inl w118) <| Runs.iinc (P' := [vr a, vi (i1 + (1 : Int32)), vi r3]) d12_78 ci_1 rfl (by decide) rfl <| Runs.goto (pc' := 7) d12_81 (by decide) <| Runs.forget [true, true, false] rfl <| hk7 (sI (sA q9 12 (gI q9 12) i1) 12 ((gI q9 12) + (1 : Int32))) (i1 + (1 : Int32)) hf
        · refine Runs.icY (pc' := 78) d12_37 (flt hc6).2.1 (by decide) <| ?_
          exact Runs.iinc (P' := [vr a, vi (i1 + (1 : Int32)), vi r3]) d12_78 ci_1 rfl (by decide) rfl <| Runs.goto (pc' := 7) d12_81 (by decide) <| Runs.forget [true, true, false] rfl <| hk7 ob (i1 + (1 : Int32)) hf
    · refine Runs.icY (pc' := 84) d12_18 (flt hc2).2.1 (by decide) <| ?_
      obtain rfl := Option.some.inj hf
      exact Runs.retV d12_84 rfl ⟨by decide, by decide⟩ ⟨rfl, rfl⟩
  · refine Runs.icY (pc' := 84) d12_12 (flt hc1).2.1 (by decide) <| ?_
    obtain rfl := Option.some.inj hf
    exact Runs.retV d12_84 rfl ⟨by decide, by decide⟩ ⟨rfl, rfl⟩
theorem X_eliminate_l7_p {C : Ctx} {top : Nat} {a : Nat} {H : List (Nat × Nat × Rec)} {res : Rec} {NF : Nat} (n : Nat) (ob : Rec) (i1 : Int32) (hf : X_eliminate_l7 NF n ob i1 = some res) : Runs C B12 0 0 7 [vr a, vi i1, vn] [] (top, (a, 17, ob) :: H) (Ans none (top, (a, 17, res) :: H)) := by
  induction n generalizing ob i1 with
  | zero => cases (show (none : Option (Rec)) = some res from hf)
  | succ n ih => exact X_eliminate_w7_p (X_eliminate_l7 NF n) (fun ob i1 h => ih _ _ h) ob i1 hf
def X_eliminate (NF : Nat) (ob : Rec) : Option (Rec) :=
  X_eliminate_l7 NF NF (sI ob 12 (0 : Int32)) (0 : Int32)
set_option maxRecDepth 65536 in
set_option maxHeartbeats 4000000 in
theorem X_eliminate_p {C : Ctx} {top : Nat} {a : Nat} {H : List (Nat × Nat × Rec)} {res : Rec} {NF : Nat} (ob : Rec) (hf : X_eliminate NF ob = some res) : Runs C B12 0 0 0 [vr a, vn, vn] [] (top, (a, 17, ob) :: H) (Ans none (top, (a, 17, res) :: H)) := by
  delta X_eliminate at hf
  exact Runs.aloadN d12_0 rfl <| Runs.iconst d12_1 ci_0 <| Runs.putI d12_2 w117 fS_12 (Or.inl w118) <| Runs.iconst d12_5 ci_0 <| Runs.istoreN (P' := [vr a, vi (0 : Int32), vn]) d12_6 (by decide) rfl <| X_eliminate_l7_p NF (sI ob 12 (0 : Int32)) (0 : Int32) hf
theorem X_eliminate_pay {C : Ctx} {top : Nat} {a : Nat} {H : List (Nat × Nat × Rec)} {res : Rec} {NF : Nat} {ob : Rec} (hf : X_eliminate NF ob = some res) : Pays C B12 [.ref a] (top, (a, 17, ob) :: H) (Ans none (top, (a, 17, res) :: H)) :=
  Pays.of pnK (Nat.le_of_ble_eq_true rfl) (P := [vr a, vn, vn]) 2 rfl (X_eliminate_p ob hf)
def X_scratchConsistent_w2 (NF : Nat) (ob : Rec) (k2 : Int32 → Option (Int32)) (i1 : Int32) : Option (Int32) :=
  if i1 < (gI ob 11) then
    if i1 < (16 : Int32) then
      chk (16 : Int32) i1 <|
      if (gA ob 10 i1) = (0 : Int32) then
        chk (16 : Int32) i1 <|
        if (gA ob 11 i1) = (0 : Int32) then
          k2 (i1 + (1 : Int32))
        else
          some (0 : Int32)
      else
        k2 (i1 + (1 : Int32))
    else
      some (1 : Int32)
  else
    some (1 : Int32)
def X_scratchConsistent_l2 (NF : Nat) (ob : Rec) : Nat → Int32 → Option (Int32)
  | 0, _ => none
  | n + 1, i1 => X_scratchConsistent_w2 NF ob (X_scratchConsistent_l2 NF ob n) i1
set_option maxRecDepth 65536 in
set_option maxHeartbeats 4000000 in
theorem X_scratchConsistent_w2_p {C : Ctx} {top : Nat} {a : Nat} {H : List (Nat × Nat × Rec)} {ob : Rec} {res : Int32} {NF : Nat} (k2 : Int32 → Option (Int32)) (hk2 : ∀ (i1 : Int32), k2 i1 = some res → Runs C B16 0 0 2 [vr a, vi i1] [] (top, (a, 17, ob) :: H) (Ans (some (.int res)) (top, (a, 17, ob) :: H))) (i1 : Int32) (hf : X_scratchConsistent_w2 NF ob k2 i1 = some res) : Runs C B16 0 0 2 [vr a, vi i1] [] (top, (a, 17, ob) :: H) (Ans (some (.int res)) (top, (a, 17, ob) :: H)) := by
  delta X_scratchConsistent_w2 at hf
  refine Runs.iloadN d16_2 rfl <| Runs.aloadN d16_3 rfl <| Runs.getI d16_4 w111 fS_11 <| ?_
  refine ite_el hf (fun hc1 hf => ?_) (fun hc1 hf => ?_)
  · refine Runs.icN d16_7 (tlt hc1).2.1 <| ?_
    refine Runs.iloadN d16_10 rfl <| Runs.bipush d16_11 cb_16 <| ?_
    refine ite_el hf (fun hc2 hf => ?_) (fun hc2 hf => ?_)
    · refine Runs.icN d16_13 (tlt hc2).2.1 <| ?_
      refine Runs.aloadN d16_16 rfl <| Runs.getA d16_17 fA_10 w31 (by decide) <| Runs.iloadN d16_20 rfl <| ?_
      refine chk_el hf fun hi3 hf => ?_
      refine Runs.ialoadA d16_21 fA_10 (by decide) hi3 <| ?_
      refine ite_el hf (fun hc4 hf => ?_) (fun hc4 hf => ?_)
      · refine Runs.ifN d16_22 (teq hc4).2 <| ?_
        refine Runs.aloadN d16_25 rfl <| Runs.getA d16_26 fA_11 w33 (by decide) <| Runs.iloadN d16_29 rfl <| ?_
        refine chk_el hf fun hi5 hf => ?_
        refine Runs.ialoadA d16_30 fA_11 (by decide) hi5 <| ?_
        refine ite_el hf (fun hc6 hf => ?_) (fun hc6 hf => ?_)
        · refine Runs.ifY (pc' := 36) d16_31 (teq hc6).1 (by decide) <| ?_
          exact Runs.iinc (P' := [vr a, vi (i1 + (1 : Int32))]) d16_36 ci_1 rfl (by decide) rfl <| Runs.goto (pc' := 2) d16_39 (by decide) <| hk2 (i1 + (1 : Int32)) hf
        · refine Runs.ifN d16_31 (feq hc6).1 <| ?_
          obtain rfl := Option.some.inj hf
          exact Runs.iconst d16_34 ci_0 <| Runs.retZ (y := (0 : Int32)) d16_35 rfl ⟨by decide, by decide⟩ rfl ⟨rfl, rfl⟩
      · refine Runs.ifY (pc' := 36) d16_22 (feq hc4).2 (by decide) <| ?_
        exact Runs.iinc (P' := [vr a, vi (i1 + (1 : Int32))]) d16_36 ci_1 rfl (by decide) rfl <| Runs.goto (pc' := 2) d16_39 (by decide) <| hk2 (i1 + (1 : Int32)) hf
    · refine Runs.icY (pc' := 42) d16_13 (flt hc2).2.1 (by decide) <| ?_
      obtain rfl := Option.some.inj hf
      exact Runs.iconst d16_42 ci_1 <| Runs.retZ (y := (1 : Int32)) d16_43 rfl ⟨by decide, by decide⟩ rfl ⟨rfl, rfl⟩
  · refine Runs.icY (pc' := 42) d16_7 (flt hc1).2.1 (by decide) <| ?_
    obtain rfl := Option.some.inj hf
    exact Runs.iconst d16_42 ci_1 <| Runs.retZ (y := (1 : Int32)) d16_43 rfl ⟨by decide, by decide⟩ rfl ⟨rfl, rfl⟩
theorem X_scratchConsistent_l2_p {C : Ctx} {top : Nat} {a : Nat} {H : List (Nat × Nat × Rec)} {ob : Rec} {res : Int32} {NF : Nat} (n : Nat) (i1 : Int32) (hf : X_scratchConsistent_l2 NF ob n i1 = some res) : Runs C B16 0 0 2 [vr a, vi i1] [] (top, (a, 17, ob) :: H) (Ans (some (.int res)) (top, (a, 17, ob) :: H)) := by
  induction n generalizing i1 with
  | zero => cases (show (none : Option (Int32)) = some res from hf)
  | succ n ih => exact X_scratchConsistent_w2_p (X_scratchConsistent_l2 NF ob n) (fun i1 h => ih _ h) i1 hf
def X_scratchConsistent (NF : Nat) (ob : Rec) : Option (Int32) :=
  X_scratchConsistent_l2 NF ob NF (0 : Int32)
set_option maxRecDepth 65536 in
set_option maxHeartbeats 4000000 in
theorem X_scratchConsistent_p {C : Ctx} {top : Nat} {a : Nat} {H : List (Nat × Nat × Rec)} {ob : Rec} {res : Int32} {NF : Nat} (hf : X_scratchConsistent NF ob = some res) : Runs C B16 0 0 0 [vr a, vn] [] (top, (a, 17, ob) :: H) (Ans (some (.int res)) (top, (a, 17, ob) :: H)) := by
  delta X_scratchConsistent at hf
  exact Runs.iconst d16_0 ci_0 <| Runs.istoreN (P' := [vr a, vi (0 : Int32)]) d16_1 (by decide) rfl <| X_scratchConsistent_l2_p NF (0 : Int32) hf
theorem X_scratchConsistent_pay {C : Ctx} {top : Nat} {a : Nat} {H : List (Nat × Nat × Rec)} {ob : Rec} {res : Int32} {NF : Nat} (hf : X_scratchConsistent NF ob = some res) : Pays C B16 [.ref a] (top, (a, 17, ob) :: H) (Ans (some (.int res)) (top, (a, 17, ob) :: H)) :=
  Pays.of pnK (Nat.le_of_ble_eq_true rfl) (P := [vr a, vn]) 1 rfl (X_scratchConsistent_p hf)
def X_ensureEchelon_w88 (NF : Nat) (k88 : Rec → Int32 → Option (Rec)) (ob : Rec) (i1 : Int32) : Option (Rec) :=
  if i1 < (gI ob 12) then
    if i1 < (16 : Int32) then
      chk (16 : Int32) i1 <|
      chk (16 : Int32) i1 <|
      chk (16 : Int32) i1 <|
      chk (16 : Int32) i1 <|
      chk (16 : Int32) i1 <|
      chk (16 : Int32) i1 <|
      k88 (sI (sA (sA (sA ob 7 i1 (gA ob 10 i1)) 8 i1 (gA ob 11 i1)) 9 i1 (gA ob 12 i1)) 8 ((gI ob 8) + (1 : Int32))) (i1 + (1 : Int32))
    else
      some (sI ob 10 (1 : Int32))
  else
    some (sI ob 10 (1 : Int32))
def X_ensureEchelon_l88 (NF : Nat) : Nat → Rec → Int32 → Option (Rec)
  | 0, _, _ => none
  | n + 1, ob, i1 => X_ensureEchelon_w88 NF (X_ensureEchelon_l88 NF n) ob i1
set_option maxRecDepth 65536 in
set_option maxHeartbeats 4000000 in
theorem X_ensureEchelon_w88_p {C : Ctx} {top : Nat} {a : Nat} {H : List (Nat × Nat × Rec)} {res : Rec} {NF : Nat} (k88 : Rec → Int32 → Option (Rec)) (hk88 : ∀ (ob : Rec) (i1 : Int32), k88 ob i1 = some res → Runs C B11 0 0 88 [vr a, vi i1] [] (top, (a, 17, ob) :: H) (Ans none (top, (a, 17, res) :: H))) (ob : Rec) (i1 : Int32) (hf : X_ensureEchelon_w88 NF k88 ob i1 = some res) : Runs C B11 0 0 88 [vr a, vi i1] [] (top, (a, 17, ob) :: H) (Ans none (top, (a, 17, res) :: H)) := by
  delta X_ensureEchelon_w88 at hf
  refine Runs.iloadN d11_88 rfl <| Runs.aloadN d11_89 rfl <| Runs.getI d11_90 w117 fS_12 <| ?_
  refine ite_el hf (fun hc11 hf => ?_) (fun hc11 hf => ?_)
  · refine Runs.icN d11_93 (tlt hc11).2.1 <| ?_
    refine Runs.iloadN d11_96 rfl <| Runs.bipush d11_97 cb_16 <| ?_
    refine ite_el hf (fun hc12 hf => ?_) (fun hc12 hf => ?_)
    · refine Runs.icN d11_99 (tlt hc12).2.1 <| ?_
      refine Runs.aloadN d11_102 rfl <| Runs.getA d11_103 fA_7 w25 (by decide) <| Runs.iloadN d11_106 rfl <| Runs.aloadN d11_107 rfl <| Runs.getA d11_108 fA_10 w31 (by decide) <| Runs.iloadN d11_111 rfl <| ?_
      refine chk_el hf fun hi13 hf => ?_
      refine Runs.ialoadA d11_112 fA_10 (by decide) hi13 <| ?_
      refine chk_el hf fun hi14 hf => ?_
      refine Runs.iastoreA d11_113 fA_7 (by decide) hi14 <| Runs.aloadN d11_114 rfl <| Runs.getA d11_115 fA_8 w27 (by decide) <| Runs.iloadN d11_118 rfl <| Runs.aloadN d11_119 rfl <| Runs.getA d11_120 fA_11 w33 (by decide) <| Runs.iloadN d11_123 rfl <| ?_
      refine chk_el hf fun hi15 hf => ?_
      refine Runs.ialoadA d11_124 fA_11 (by decide) hi15 <| ?_
      refine chk_el hf fun hi16 hf => ?_
      refine Runs.iastoreA d11_125 fA_8 (by decide) hi16 <| Runs.aloadN d11_126 rfl <| Runs.getA d11_127 fA_9 w29 (by decide) <| Runs.iloadN d11_130 rfl <| Runs.aloadN d11_131 rfl <| Runs.getA d11_132 fA_12 w35 (by decide) <| Runs.iloadN d11_135 rfl <| ?_
      refine chk_el hf fun hi17 hf => ?_
      refine Runs.ialoadA d11_136 fA_12 (by decide) hi17 <| ?_
      refine chk_el hf fun hi18 hf => ?_
      exact Runs.iastoreA d11_137 fA_9 (by decide) hi18 <| Runs.aloadN d11_138 rfl <| Runs.dup d11_139 rfl <| Runs.getI d11_140 w65 fS_8 <| Runs.iconst d11_143 ci_1 <| Runs.iadd d11_144 <| Runs.putI d11_145 w65 fS_8 (Or.inl w66) <| Runs.iinc (P' := [vr a, vi (i1 + (1 : Int32))]) d11_148 ci_1 rfl (by decide) rfl <| Runs.goto (pc' := 88) d11_151 (by decide) <| hk88 (sI (sA (sA (sA ob 7 i1 (gA ob 10 i1)) 8 i1 (gA ob 11 i1)) 9 i1 (gA ob 12 i1)) 8 ((gI ob 8) + (1 : Int32))) (i1 + (1 : Int32)) hf
    · refine Runs.icY (pc' := 154) d11_99 (flt hc12).2.1 (by decide) <| ?_
      obtain rfl := Option.some.inj hf
      exact Runs.aloadN d11_154 rfl <| Runs.iconst d11_155 ci_1 <| Runs.putZ (y := (1 : Int32)) d11_156 w61 fS_10 (Or.inl w62) rfl <| Runs.retV d11_159 rfl ⟨by decide, by decide⟩ ⟨rfl, rfl⟩
  · refine Runs.icY (pc' := 154) d11_93 (flt hc11).2.1 (by decide) <| ?_
    obtain rfl := Option.some.inj hf
    exact Runs.aloadN d11_154 rfl <| Runs.iconst d11_155 ci_1 <| Runs.putZ (y := (1 : Int32)) d11_156 w61 fS_10 (Or.inl w62) rfl <| Runs.retV d11_159 rfl ⟨by decide, by decide⟩ ⟨rfl, rfl⟩
theorem X_ensureEchelon_l88_p {C : Ctx} {top : Nat} {a : Nat} {H : List (Nat × Nat × Rec)} {res : Rec} {NF : Nat} (n : Nat) (ob : Rec) (i1 : Int32) (hf : X_ensureEchelon_l88 NF n ob i1 = some res) : Runs C B11 0 0 88 [vr a, vi i1] [] (top, (a, 17, ob) :: H) (Ans none (top, (a, 17, res) :: H)) := by
  induction n generalizing ob i1 with
  | zero => cases (show (none : Option (Rec)) = some res from hf)
  | succ n ih => exact X_ensureEchelon_w88_p (X_ensureEchelon_l88 NF n) (fun ob i1 h => ih _ _ h) ob i1 hf
def X_ensureEchelon_b69 (NF : Nat) (ob : Rec) : Option (Rec) :=
  (X_eliminate NF ob).bind fun q7 =>
  (X_scratchConsistent NF q7).bind fun r9 =>
  X_ensureEchelon_l88 NF NF (sI (sI q7 9 (r9 &&& 1)) 8 (0 : Int32)) (0 : Int32)
set_option maxRecDepth 65536 in
set_option maxHeartbeats 4000000 in
theorem X_ensureEchelon_b69_p {C : Ctx} {top : Nat} {a : Nat} {H : List (Nat × Nat × Rec)} {res : Rec} {NF : Nat} (ob : Rec) (hf : X_ensureEchelon_b69 NF ob = some res) : Runs C B11 0 0 69 [vr a, vn] [] (top, (a, 17, ob) :: H) (Ans none (top, (a, 17, res) :: H)) := by
  delta X_ensureEchelon_b69 at hf
  refine Runs.aloadN d11_69 rfl <| ?_
  refine bind_el hf fun q7 hg8 hf => ?_
  refine Runs.callP (N := B12) (W := 0) (as := []) (S' := []) d11_70 w113 w114 w115 rfl cw12 ar12 rk11_12_0 (by decide) rfl rfl (X_eliminate_pay hg8) <| ans0 <| Runs.aloadN d11_73 rfl <| Runs.aloadN d11_74 rfl <| ?_
  refine bind_el hf fun r9 hg10 hf => ?_
  exact Runs.callP (N := B16) (W := 1) (as := []) (S' := [.ref a]) d11_75 w131 w132 w133 rfl cw16 ar16 rk11_16_1 (by decide) rfl rfl (X_scratchConsistent_pay hg10) <| ans1 <| Runs.putZ (y := (r9 &&& 1)) d11_78 w63 fS_9 (Or.inl w64) rfl <| Runs.aloadN d11_81 rfl <| Runs.iconst d11_82 ci_0 <| Runs.putI d11_83 w65 fS_8 (Or.inl w66) <| Runs.iconst d11_86 ci_0 <| Runs.istoreN (P' := [vr a, vi (0 : Int32)]) d11_87 (by decide) rfl <| X_ensureEchelon_l88_p NF (sI (sI q7 9 (r9 &&& 1)) 8 (0 : Int32)) (0 : Int32) hf
def X_ensureEchelon_w15 (NF : Nat) (k15 : Rec → Int32 → Option (Rec)) (ob : Rec) (i1 : Int32) : Option (Rec) :=
  if i1 < (gI ob 6) then
    if i1 < (16 : Int32) then
      chk (16 : Int32) i1 <|
      chk (16 : Int32) i1 <|
      chk (16 : Int32) i1 <|
      chk (16 : Int32) i1 <|
      k15 (sI (sA (sA ob 10 i1 (gA ob 4 i1)) 11 i1 (gA ob 5 i1)) 11 ((gI ob 11) + (1 : Int32))) (i1 + (1 : Int32))
    else
      X_ensureEchelon_b69 NF ob
  else
    X_ensureEchelon_b69 NF ob
def X_ensureEchelon_l15 (NF : Nat) : Nat → Rec → Int32 → Option (Rec)
  | 0, _, _ => none
  | n + 1, ob, i1 => X_ensureEchelon_w15 NF (X_ensureEchelon_l15 NF n) ob i1
set_option maxRecDepth 65536 in
set_option maxHeartbeats 4000000 in
theorem X_ensureEchelon_w15_p {C : Ctx} {top : Nat} {a : Nat} {H : List (Nat × Nat × Rec)} {res : Rec} {NF : Nat} (k15 : Rec → Int32 → Option (Rec)) (hk15 : ∀ (ob : Rec) (i1 : Int32), k15 ob i1 = some res → Runs C B11 0 0 15 [vr a, vi i1] [] (top, (a, 17, ob) :: H) (Ans none (top, (a, 17, res) :: H))) (ob : Rec) (i1 : Int32) (hf : X_ensureEchelon_w15 NF k15 ob i1 = some res) : Runs C B11 0 0 15 [vr a, vi i1] [] (top, (a, 17, ob) :: H) (Ans none (top, (a, 17, res) :: H)) := by
  delta X_ensureEchelon_w15 at hf
  refine Runs.iloadN d11_15 rfl <| Runs.aloadN d11_16 rfl <| Runs.getI d11_17 w57 fS_6 <| ?_
  refine ite_el hf (fun hc1 hf => ?_) (fun hc1 hf => ?_)
  · refine Runs.icN d11_20 (tlt hc1).2.1 <| ?_
    refine Runs.iloadN d11_23 rfl <| Runs.bipush d11_24 cb_16 <| ?_
    refine ite_el hf (fun hc2 hf => ?_) (fun hc2 hf => ?_)
    · refine Runs.icN d11_26 (tlt hc2).2.1 <| ?_
      refine Runs.aloadN d11_29 rfl <| Runs.getA d11_30 fA_10 w31 (by decide) <| Runs.iloadN d11_33 rfl <| Runs.aloadN d11_34 rfl <| Runs.getA d11_35 fA_4 w19 (by decide) <| Runs.iloadN d11_38 rfl <| ?_
      refine chk_el hf fun hi3 hf => ?_
      refine Runs.ialoadA d11_39 fA_4 (by decide) hi3 <| ?_
      refine chk_el hf fun hi4 hf => ?_
      refine Runs.iastoreA d11_40 fA_10 (by decide) hi4 <| Runs.aloadN d11_41 rfl <| Runs.getA d11_42 fA_11 w33 (by decide) <| Runs.iloadN d11_45 rfl <| Runs.aloadN d11_46 rfl <| Runs.getA d11_47 fA_5 w21 (by decide) <| Runs.iloadN d11_50 rfl <| ?_
      refine chk_el hf fun hi5 hf => ?_
      refine Runs.ialoadA d11_51 fA_5 (by decide) hi5 <| ?_
      refine chk_el hf fun hi6 hf => ?_
      exact Runs.iastoreA d11_52 fA_11 (by decide) hi6 <| Runs.aloadN d11_53 rfl <| Runs.dup d11_54 rfl <| Runs.getI d11_55 w111 fS_11 <| Runs.iconst d11_58 ci_1 <| Runs.iadd d11_59 <| Runs.putI d11_60 w111 fS_11 (Or.inl w112) <| Runs.iinc (P' := [vr a, vi (i1 + (1 : Int32))]) d11_63 ci_1 rfl (by decide) rfl <| Runs.goto (pc' := 15) d11_66 (by decide) <| hk15 (sI (sA (sA ob 10 i1 (gA ob 4 i1)) 11 i1 (gA ob 5 i1)) 11 ((gI ob 11) + (1 : Int32))) (i1 + (1 : Int32)) hf
    · exact Runs.icY (pc' := 69) d11_26 (flt hc2).2.1 (by decide) <| Runs.forget [true, false] rfl <| X_ensureEchelon_b69_p ob hf
  · exact Runs.icY (pc' := 69) d11_20 (flt hc1).2.1 (by decide) <| Runs.forget [true, false] rfl <| X_ensureEchelon_b69_p ob hf
theorem X_ensureEchelon_l15_p {C : Ctx} {top : Nat} {a : Nat} {H : List (Nat × Nat × Rec)} {res : Rec} {NF : Nat} (n : Nat) (ob : Rec) (i1 : Int32) (hf : X_ensureEchelon_l15 NF n ob i1 = some res) : Runs C B11 0 0 15 [vr a, vi i1] [] (top, (a, 17, ob) :: H) (Ans none (top, (a, 17, res) :: H)) := by
  induction n generalizing ob i1 with
  | zero => cases (show (none : Option (Rec)) = some res from hf)
  | succ n ih => exact X_ensureEchelon_w15_p (X_ensureEchelon_l15 NF n) (fun ob i1 h => ih _ _ h) ob i1 hf
def X_ensureEchelon (NF : Nat) (ob : Rec) : Option (Rec) :=
  if (gI ob 10) = (0 : Int32) then
    X_ensureEchelon_l15 NF NF (sI ob 11 (0 : Int32)) (0 : Int32)
  else
    some ob
set_option maxRecDepth 65536 in
set_option maxHeartbeats 4000000 in
theorem X_ensureEchelon_p {C : Ctx} {top : Nat} {a : Nat} {H : List (Nat × Nat × Rec)} {res : Rec} {NF : Nat} (ob : Rec) (hf : X_ensureEchelon NF ob = some res) : Runs C B11 0 0 0 [vr a, vn] [] (top, (a, 17, ob) :: H) (Ans none (top, (a, 17, res) :: H)) := by
  delta X_ensureEchelon at hf
  refine Runs.aloadN d11_0 rfl <| Runs.getI d11_1 w61 fS_10 <| ?_
  refine ite_el hf (fun hc19 hf => ?_) (fun hc19 hf => ?_)
  · refine Runs.ifY (pc' := 8) d11_4 (teq hc19).1 (by decide) <| ?_
    exact Runs.aloadN d11_8 rfl <| Runs.iconst d11_9 ci_0 <| Runs.putI d11_10 w111 fS_11 (Or.inl w112) <| Runs.iconst d11_13 ci_0 <| Runs.istoreN (P' := [vr a, vi (0 : Int32)]) d11_14 (by decide) rfl <| X_ensureEchelon_l15_p NF (sI ob 11 (0 : Int32)) (0 : Int32) hf
  · refine Runs.ifN d11_4 (feq hc19).1 <| ?_
    obtain rfl := Option.some.inj hf
    exact Runs.retV d11_7 rfl ⟨by decide, by decide⟩ ⟨rfl, rfl⟩
theorem X_ensureEchelon_pay {C : Ctx} {top : Nat} {a : Nat} {H : List (Nat × Nat × Rec)} {res : Rec} {NF : Nat} {ob : Rec} (hf : X_ensureEchelon NF ob = some res) : Pays C B11 [.ref a] (top, (a, 17, ob) :: H) (Ans none (top, (a, 17, res) :: H)) :=
  Pays.of pnK (Nat.le_of_ble_eq_true rfl) (P := [vr a, vn]) 1 rfl (X_ensureEchelon_p ob hf)
def X_resetSearch (ob : Rec) : Option (Rec) :=
  some (sI (sI (sI (sI (sI ob 13 (0 : Int32)) 14 (0 : Int32)) 15 (0 : Int32)) 16 (0 : Int32)) 17 (0 : Int32))
set_option maxRecDepth 65536 in
set_option maxHeartbeats 4000000 in
theorem X_resetSearch_p {C : Ctx} {top : Nat} {a : Nat} {H : List (Nat × Nat × Rec)} {res : Rec} (ob : Rec) (hf : X_resetSearch ob = some res) : Runs C B17 0 0 0 [vr a] [] (top, (a, 17, ob) :: H) (Ans none (top, (a, 17, res) :: H)) := by
  delta X_resetSearch at hf
  refine Runs.aloadN d17_0 rfl <| Runs.iconst d17_1 ci_0 <| Runs.putI d17_2 w139 fS_13 (Or.inl w140) <| Runs.aloadN d17_5 rfl <| Runs.iconst d17_6 ci_0 <| Runs.putI d17_7 w141 fS_14 (Or.inl w142) <| Runs.aloadN d17_10 rfl <| Runs.iconst d17_11 ci_0 <| Runs.putI d17_12 w143 fS_15 (Or.inl w144) <| Runs.aloadN d17_15 rfl <| Runs.iconst d17_16 ci_0 <| Runs.putI d17_17 w145 fS_16 (Or.inl w146) <| ?_
  obtain rfl := Option.some.inj hf
  exact Runs.aloadN d17_20 rfl <| Runs.iconst d17_21 ci_0 <| Runs.putI d17_22 w147 fS_17 (Or.inl w148) <| Runs.retV d17_25 rfl ⟨by decide, by decide⟩ ⟨rfl, rfl⟩
theorem X_resetSearch_pay {C : Ctx} {top : Nat} {a : Nat} {H : List (Nat × Nat × Rec)} {res : Rec} {ob : Rec} (hf : X_resetSearch ob = some res) : Pays C B17 [.ref a] (top, (a, 17, ob) :: H) (Ans none (top, (a, 17, res) :: H)) :=
  Pays.of pnK (Nat.le_of_ble_eq_true rfl) (P := [vr a]) 0 rfl (X_resetSearch_p ob hf)
def X_assign (ob : Rec) (i1 : Int32) (i2 : Int32) : Option (Rec) :=
  if i1 < (0 : Int32) then
    some ob
  else
    if i1 < (gI ob 0) then
      if ((gI ob 13) &&& ((1 : Int32) <<< (i1 &&& 31))) = (0 : Int32) then
        if (gI ob 15) < (0 : Int32) then
          some ob
        else
          if (gI ob 15) < (12 : Int32) then
            if i2 = (0 : Int32) then
              chk (12 : Int32) (gI ob 15) <|
              some (sI (sA (sI (sI ob 13 ((gI ob 13) ||| ((1 : Int32) <<< (i1 &&& 31)))) 14 ((gI ob 14) &&& (((1 : Int32) <<< (i1 &&& 31)) ^^^ (-1 : Int32)))) 13 (gI ob 15) i1) 15 ((gI ob 15) + (1 : Int32)))
            else
              chk (12 : Int32) (gI ob 15) <|
              some (sI (sA (sI (sI ob 13 ((gI ob 13) ||| ((1 : Int32) <<< (i1 &&& 31)))) 14 ((gI ob 14) ||| ((1 : Int32) <<< (i1 &&& 31)))) 13 (gI ob 15) i1) 15 ((gI ob 15) + (1 : Int32)))
          else
            some ob
      else
        some ob
    else
      some ob
set_option maxRecDepth 65536 in
set_option maxHeartbeats 4000000 in
theorem X_assign_p {C : Ctx} {top : Nat} {a : Nat} {H : List (Nat × Nat × Rec)} {res : Rec} (ob : Rec) (i1 : Int32) (i2 : Int32) (hf : X_assign ob i1 i2 = some res) : Runs C B27 0 0 0 [vr a, vi i1, vi i2, vn] [] (top, (a, 17, ob) :: H) (Ans none (top, (a, 17, res) :: H)) := by
  delta X_assign at hf
  refine Runs.iloadN d27_0 rfl <| ?_
  refine ite_el hf (fun hc1 hf => ?_) (fun hc1 hf => ?_)
  · refine Runs.ifY (pc' := 12) d27_1 (tlt hc1).1 (by decide) <| ?_
    obtain rfl := Option.some.inj hf
    exact Runs.retV d27_12 rfl ⟨by decide, by decide⟩ ⟨rfl, rfl⟩
  · refine Runs.ifN d27_1 (flt hc1).1 <| ?_
    refine Runs.iloadN d27_4 rfl <| Runs.aloadN d27_5 rfl <| Runs.getI d27_6 w45 fS_0 <| ?_
    refine ite_el hf (fun hc2 hf => ?_) (fun hc2 hf => ?_)
    · refine Runs.icY (pc' := 13) d27_9 (tlt hc2).1 (by decide) <| ?_
      refine Runs.iconst d27_13 ci_1 <| Runs.iloadN d27_14 rfl <| Runs.ishl d27_15 <| Runs.istoreN (P' := [vr a, vi i1, vi i2, vi ((1 : Int32) <<< (i1 &&& 31))]) d27_16 (by decide) rfl <| Runs.aloadN d27_17 rfl <| Runs.getI d27_18 w139 fS_13 <| Runs.iloadN d27_21 rfl <| Runs.iand d27_22 <| ?_
      refine ite_el hf (fun hc3 hf => ?_) (fun hc3 hf => ?_)
      · refine Runs.ifY (pc' := 27) d27_23 (teq hc3).1 (by decide) <| ?_
        refine Runs.aloadN d27_27 rfl <| Runs.getI d27_28 w143 fS_15 <| ?_
        refine ite_el hf (fun hc4 hf => ?_) (fun hc4 hf => ?_)
        · refine Runs.ifY (pc' := 43) d27_31 (tlt hc4).1 (by decide) <| ?_
          obtain rfl := Option.some.inj hf
          exact Runs.retV d27_43 rfl ⟨by decide, by decide⟩ ⟨rfl, rfl⟩
        · refine Runs.ifN d27_31 (flt hc4).1 <| ?_
          refine Runs.aloadN d27_34 rfl <| Runs.getI d27_35 w143 fS_15 <| Runs.bipush d27_38 cb_12 <| ?_
          refine ite_el hf (fun hc5 hf => ?_) (fun hc5 hf => ?_)
          · refine Runs.icY (pc' := 44) d27_40 (tlt hc5).1 (by decide) <| ?_
            refine Runs.aloadN d27_44 rfl <| Runs.dup d27_45 rfl <| Runs.getI d27_46 w139 fS_13 <| Runs.iloadN d27_49 rfl <| Runs.ior d27_50 <| Runs.putI d27_51 w139 fS_13 (Or.inl w140) <| Runs.iloadN d27_54 rfl <| ?_
            refine ite_el hf (fun hc6 hf => ?_) (fun hc6 hf => ?_)
            · refine Runs.ifY (pc' := 71) d27_55 (teq hc6).1 (by decide) <| ?_
              refine Runs.aloadN d27_71 rfl <| Runs.dup d27_72 rfl <| Runs.getI d27_73 w141 fS_14 <| Runs.iloadN d27_76 rfl <| Runs.iconst d27_77 ci_m1 <| Runs.ixor d27_78 <| Runs.iand d27_79 <| Runs.putI d27_80 w141 fS_14 (Or.inl w142) <| Runs.aloadN d27_83 rfl <| Runs.getA d27_84 fA_13 w37 (by decide) <| Runs.aloadN d27_87 rfl <| Runs.getI d27_88 w143 fS_15 <| ?_
              refine Runs.iloadN d27_91 rfl <| ?_
              refine chk_el hf fun hi7 hf => ?_
              obtain rfl := Option.some.inj hf
              exact Runs.iastoreA d27_92 fA_13 (by decide) hi7 <| Runs.aloadN d27_93 rfl <| Runs.dup d27_94 rfl <| Runs.getI d27_95 w143 fS_15 <| Runs.iconst d27_98 ci_1 <| Runs.iadd d27_99 <| Runs.putI d27_100 w143 fS_15 (Or.inl w144) <| Runs.retV d27_103 rfl ⟨by decide, by decide⟩ ⟨rfl, rfl⟩
            · refine Runs.ifN d27_55 (feq hc6).1 <| ?_
              refine Runs.aloadN d27_58 rfl <| Runs.dup d27_59 rfl <| Runs.getI d27_60 w141 fS_14 <| Runs.iloadN d27_63 rfl <| Runs.ior d27_64 <| Runs.putI d27_65 w141 fS_14 (Or.inl w142) <| Runs.goto (pc' := 83) d27_68 (by decide) <| Runs.aloadN d27_83 rfl <| Runs.getA d27_84 fA_13 w37 (by decide) <| Runs.aloadN d27_87 rfl <| Runs.getI d27_88 w143 fS_15 <| Runs.iloadN d27_91 rfl <| ?_
              refine chk_el hf fun hi8 hf => ?_
              obtain rfl := Option.some.inj hf
              exact Runs.iastoreA d27_92 fA_13 (by decide) hi8 <| Runs.aloadN d27_93 rfl <| Runs.dup d27_94 rfl <| Runs.getI d27_95 w143 fS_15 <| Runs.iconst d27_98 ci_1 <| Runs.iadd d27_99 <| Runs.putI d27_100 w143 fS_15 (Or.inl w144) <| Runs.retV d27_103 rfl ⟨by decide, by decide⟩ ⟨rfl, rfl⟩
          · refine Runs.icN d27_40 (flt hc5).1 <| ?_
            obtain rfl := Option.some.inj hf
            exact Runs.retV d27_43 rfl ⟨by decide, by decide⟩ ⟨rfl, rfl⟩
      · refine Runs.ifN d27_23 (feq hc3).1 <| ?_
        obtain rfl := Option.some.inj hf
        exact Runs.retV d27_26 rfl ⟨by decide, by decide⟩ ⟨rfl, rfl⟩
    · refine Runs.icN d27_9 (flt hc2).1 <| ?_
      obtain rfl := Option.some.inj hf
      exact Runs.retV d27_12 rfl ⟨by decide, by decide⟩ ⟨rfl, rfl⟩
theorem X_assign_pay {C : Ctx} {top : Nat} {a : Nat} {H : List (Nat × Nat × Rec)} {res : Rec} {ob : Rec} {i1 : Int32} {i2 : Int32} (hf : X_assign ob i1 i2 = some res) : Pays C B27 [.ref a, .int i1, .int i2] (top, (a, 17, ob) :: H) (Ans none (top, (a, 17, res) :: H)) :=
  Pays.of pnK (Nat.le_of_ble_eq_true rfl) (P := [vr a, vi i1, vi i2, vn]) 1 rfl (X_assign_p ob i1 i2 hf)
def X_isSingleBit (ob : Rec) (i1 : Int32) : Option (Int32) :=
  if i1 = (0 : Int32) then
    some (0 : Int32)
  else
    if (i1 &&& (i1 - (1 : Int32))) = (0 : Int32) then
      some (1 : Int32)
    else
      some (0 : Int32)
set_option maxRecDepth 65536 in
set_option maxHeartbeats 4000000 in
theorem X_isSingleBit_p {C : Ctx} {top : Nat} {a : Nat} {H : List (Nat × Nat × Rec)} {ob : Rec} {res : Int32} (i1 : Int32) (hf : X_isSingleBit ob i1 = some res) : Runs C B21 0 0 0 [vr a, vi i1] [] (top, (a, 17, ob) :: H) (Ans (some (.int res)) (top, (a, 17, ob) :: H)) := by
  delta X_isSingleBit at hf
  refine Runs.iloadN d21_0 rfl <| ?_
  refine ite_el hf (fun hc1 hf => ?_) (fun hc1 hf => ?_)
  · refine Runs.ifY (pc' := 16) d21_1 (teq hc1).1 (by decide) <| ?_
    obtain rfl := Option.some.inj hf
    exact Runs.iconst d21_16 ci_0 <| Runs.retZ (y := (0 : Int32)) d21_17 rfl ⟨by decide, by decide⟩ rfl ⟨rfl, rfl⟩
  · refine Runs.ifN d21_1 (feq hc1).1 <| ?_
    refine Runs.iloadN d21_4 rfl <| Runs.iloadN d21_5 rfl <| Runs.iconst d21_6 ci_1 <| Runs.isub d21_7 <| Runs.iand d21_8 <| ?_
    refine ite_el hf (fun hc2 hf => ?_) (fun hc2 hf => ?_)
    · refine Runs.ifN d21_9 (teq hc2).2 <| ?_
      obtain rfl := Option.some.inj hf
      exact Runs.iconst d21_12 ci_1 <| Runs.goto (pc' := 17) d21_13 (by decide) <| Runs.retZ (y := (1 : Int32)) d21_17 rfl ⟨by decide, by decide⟩ rfl ⟨rfl, rfl⟩
    · refine Runs.ifY (pc' := 16) d21_9 (feq hc2).2 (by decide) <| ?_
      obtain rfl := Option.some.inj hf
      exact Runs.iconst d21_16 ci_0 <| Runs.retZ (y := (0 : Int32)) d21_17 rfl ⟨by decide, by decide⟩ rfl ⟨rfl, rfl⟩
theorem X_isSingleBit_pay {C : Ctx} {top : Nat} {a : Nat} {H : List (Nat × Nat × Rec)} {ob : Rec} {res : Int32} {i1 : Int32} (hf : X_isSingleBit ob i1 = some res) : Pays C B21 [.ref a, .int i1] (top, (a, 17, ob) :: H) (Ans (some (.int res)) (top, (a, 17, ob) :: H)) :=
  Pays.of pnK (Nat.le_of_ble_eq_true rfl) (P := [vr a, vi i1]) 0 rfl (X_isSingleBit_p i1 hf)
def X_lowestBit_w2 (NF : Nat) (ob : Rec) (k2 : Int32 → Int32 → Option (Int32)) (i1 : Int32) (i2 : Int32) : Option (Int32) :=
  if i2 < (32 : Int32) then
    if (((i1.toUInt32 >>> (i2 &&& 31).toUInt32).toInt32) &&& (1 : Int32)) = (0 : Int32) then
      k2 i1 (i2 + (1 : Int32))
    else
      some i2
  else
    some (-1 : Int32)
def X_lowestBit_l2 (NF : Nat) (ob : Rec) : Nat → Int32 → Int32 → Option (Int32)
  | 0, _, _ => none
  | n + 1, i1, i2 => X_lowestBit_w2 NF ob (X_lowestBit_l2 NF ob n) i1 i2
set_option maxRecDepth 65536 in
set_option maxHeartbeats 4000000 in
theorem X_lowestBit_w2_p {C : Ctx} {top : Nat} {a : Nat} {H : List (Nat × Nat × Rec)} {ob : Rec} {res : Int32} {NF : Nat} (k2 : Int32 → Int32 → Option (Int32)) (hk2 : ∀ (i1 : Int32) (i2 : Int32), k2 i1 i2 = some res → Runs C B28 0 0 2 [vn, vi i1, vi i2] [] (top, (a, 17, ob) :: H) (Ans (some (.int res)) (top, (a, 17, ob) :: H))) (i1 : Int32) (i2 : Int32) (hf : X_lowestBit_w2 NF ob k2 i1 i2 = some res) : Runs C B28 0 0 2 [vn, vi i1, vi i2] [] (top, (a, 17, ob) :: H) (Ans (some (.int res)) (top, (a, 17, ob) :: H)) := by
  delta X_lowestBit_w2 at hf
  refine Runs.iloadN d28_2 rfl <| Runs.bipush d28_3 cb_32 <| ?_
  refine ite_el hf (fun hc1 hf => ?_) (fun hc1 hf => ?_)
  · refine Runs.icN d28_5 (tlt hc1).2.1 <| ?_
    refine Runs.iloadN d28_8 rfl <| Runs.iloadN d28_9 rfl <| Runs.iushr d28_10 <| Runs.iconst d28_11 ci_1 <| Runs.iand d28_12 <| ?_
    refine ite_el hf (fun hc2 hf => ?_) (fun hc2 hf => ?_)
    · refine Runs.ifY (pc' := 18) d28_13 (teq hc2).1 (by decide) <| ?_
      exact Runs.iinc (P' := [vn, vi i1, vi (i2 + (1 : Int32))]) d28_18 ci_1 rfl (by decide) rfl <| Runs.goto (pc' := 2) d28_21 (by decide) <| hk2 i1 (i2 + (1 : Int32)) hf
    · refine Runs.ifN d28_13 (feq hc2).1 <| ?_
      obtain rfl := Option.some.inj hf
      exact Runs.iloadN d28_16 rfl <| Runs.retI d28_17 rfl ⟨by decide, by decide⟩ ⟨rfl, rfl⟩
  · refine Runs.icY (pc' := 24) d28_5 (flt hc1).2.1 (by decide) <| ?_
    obtain rfl := Option.some.inj hf
    exact Runs.iconst d28_24 ci_m1 <| Runs.retI d28_25 rfl ⟨by decide, by decide⟩ ⟨rfl, rfl⟩
theorem X_lowestBit_l2_p {C : Ctx} {top : Nat} {a : Nat} {H : List (Nat × Nat × Rec)} {ob : Rec} {res : Int32} {NF : Nat} (n : Nat) (i1 : Int32) (i2 : Int32) (hf : X_lowestBit_l2 NF ob n i1 i2 = some res) : Runs C B28 0 0 2 [vn, vi i1, vi i2] [] (top, (a, 17, ob) :: H) (Ans (some (.int res)) (top, (a, 17, ob) :: H)) := by
  induction n generalizing i1 i2 with
  | zero => cases (show (none : Option (Int32)) = some res from hf)
  | succ n ih => exact X_lowestBit_w2_p (X_lowestBit_l2 NF ob n) (fun i1 i2 h => ih _ _ h) i1 i2 hf
def X_lowestBit (NF : Nat) (ob : Rec) (i1 : Int32) : Option (Int32) :=
  X_lowestBit_l2 NF ob NF i1 (0 : Int32)
set_option maxRecDepth 65536 in
set_option maxHeartbeats 4000000 in
theorem X_lowestBit_p {C : Ctx} {top : Nat} {a : Nat} {H : List (Nat × Nat × Rec)} {ob : Rec} {res : Int32} {NF : Nat} (i1 : Int32) (hf : X_lowestBit NF ob i1 = some res) : Runs C B28 0 0 0 [vr a, vi i1, vn] [] (top, (a, 17, ob) :: H) (Ans (some (.int res)) (top, (a, 17, ob) :: H)) := by
  delta X_lowestBit at hf
  exact Runs.iconst d28_0 ci_0 <| Runs.istoreN (P' := [vr a, vi i1, vi (0 : Int32)]) d28_1 (by decide) rfl <| Runs.forget [false, true, true] rfl <| X_lowestBit_l2_p NF i1 (0 : Int32) hf
theorem X_lowestBit_pay {C : Ctx} {top : Nat} {a : Nat} {H : List (Nat × Nat × Rec)} {ob : Rec} {res : Int32} {NF : Nat} {i1 : Int32} (hf : X_lowestBit NF ob i1 = some res) : Pays C B28 [.ref a, .int i1] (top, (a, 17, ob) :: H) (Ans (some (.int res)) (top, (a, 17, ob) :: H)) :=
  Pays.of pnK (Nat.le_of_ble_eq_true rfl) (P := [vr a, vi i1, vn]) 1 rfl (X_lowestBit_p i1 hf)
def X_propagateClause_b120 (NF : Nat) (ob : Rec) (i6 : Int32) (i7 : Int32) : Option (Int32 × Rec) :=
  if i6 = (0 : Int32) then
    (X_isSingleBit ob i7).bind fun r2 =>
    if r2 = (0 : Int32) then
      some ((1 : Int32), ob)
    else
      (X_lowestBit NF ob i7).bind fun r5 =>
      (X_assign ob r5 (0 : Int32)).bind fun q7 =>
      some ((1 : Int32), q7)
  else
    some ((1 : Int32), ob)
set_option maxRecDepth 65536 in
set_option maxHeartbeats 4000000 in
theorem X_propagateClause_b120_p {C : Ctx} {top : Nat} {a : Nat} {H : List (Nat × Nat × Rec)} {res : Int32 × Rec} {NF : Nat} (ob : Rec) (i6 : Int32) (i7 : Int32) (hf : X_propagateClause_b120 NF ob i6 i7 = some res) : Runs C B20 0 0 120 [vr a, vn, vn, vn, vn, vn, vi i6, vi i7, vn] [] (top, (a, 17, ob) :: H) (Ans (some (.int res.1)) (top, (a, 17, res.2) :: H)) := by
  delta X_propagateClause_b120 at hf
  refine Runs.iload d20_120 rfl <| ?_
  refine ite_el hf (fun hc1 hf => ?_) (fun hc1 hf => ?_)
  · refine Runs.ifN d20_122 (teq hc1).2 <| ?_
    refine Runs.aloadN d20_125 rfl <| Runs.iload d20_126 rfl <| ?_
    refine bind_el hf fun r2 hg3 hf => ?_
    refine Runs.callP (N := B21) (W := 0) (as := [.int i7]) (S' := []) d20_128 w161 w162 w163 rfl cw21 ar21 rk20_21_0 (by decide) rfl rfl (X_isSingleBit_pay hg3) <| ans1 <| ?_
    refine ite_el hf (fun hc4 hf => ?_) (fun hc4 hf => ?_)
    · refine Runs.ifY (pc' := 149) d20_131 (teq hc4).1 (by decide) <| ?_
      obtain rfl := Option.some.inj hf
      exact Runs.iconst d20_149 ci_1 <| Runs.retZ (y := (1 : Int32)) d20_150 rfl ⟨by decide, by decide⟩ rfl ⟨rfl, rfl⟩
    · refine Runs.ifN d20_131 (feq hc4).1 <| ?_
      refine Runs.aloadN d20_134 rfl <| Runs.iload d20_135 rfl <| ?_
      refine bind_el hf fun r5 hg6 hf => ?_
      refine Runs.callP (N := B28) (W := 0) (as := [.int i7]) (S' := []) d20_137 w189 w190 w191 rfl cw28 ar28 rk20_28_0 (by decide) rfl rfl (X_lowestBit_pay hg6) <| ans1 <| Runs.istore (P' := [vr a, vn, vn, vn, vn, vn, vi i6, vi i7, vi r5]) d20_140 (by decide) rfl <| Runs.aloadN d20_142 rfl <| Runs.iload d20_143 rfl <| Runs.iconst d20_145 ci_0 <| ?_
      refine bind_el hf fun q7 hg8 hf => ?_
      obtain rfl := Option.some.inj hf
      exact Runs.callP (N := B27) (W := 0) (as := [.int r5, .int (0 : Int32)]) (S' := []) d20_146 w185 w186 w187 rfl cw27 ar27 rk20_27_0 (by decide) rfl rfl (X_assign_pay hg8) <| ans0 <| Runs.iconst d20_149 ci_1 <| Runs.retZ (y := (1 : Int32)) d20_150 rfl ⟨by decide, by decide⟩ rfl ⟨rfl, rfl⟩
  · refine Runs.ifY (pc' := 149) d20_122 (feq hc1).2 (by decide) <| ?_
    obtain rfl := Option.some.inj hf
    exact Runs.iconst d20_149 ci_1 <| Runs.retZ (y := (1 : Int32)) d20_150 rfl ⟨by decide, by decide⟩ rfl ⟨rfl, rfl⟩
def X_propagateClause (NF : Nat) (ob : Rec) (i1 : Int32) : Option (Int32 × Rec) :=
  if i1 < (0 : Int32) then
    some ((1 : Int32), ob)
  else
    if i1 < (24 : Int32) then
      chk (24 : Int32) i1 <|
      chk (24 : Int32) i1 <|
      if ((((gA ob 2 i1) &&& (gI ob 13)) &&& (gI ob 14)) ||| (((gA ob 3 i1) &&& (gI ob 13)) &&& ((gI ob 14) ^^^ (-1 : Int32)))) = (0 : Int32) then
        if (((gA ob 2 i1) &&& ((gI ob 13) ^^^ (-1 : Int32))) ||| ((gA ob 3 i1) &&& ((gI ob 13) ^^^ (-1 : Int32)))) = (0 : Int32) then
          some ((0 : Int32), ob)
        else
          if ((gA ob 3 i1) &&& ((gI ob 13) ^^^ (-1 : Int32))) = (0 : Int32) then
            (X_isSingleBit ob ((gA ob 2 i1) &&& ((gI ob 13) ^^^ (-1 : Int32)))).bind fun r16 =>
            if r16 = (0 : Int32) then
              X_propagateClause_b120 NF ob ((gA ob 2 i1) &&& ((gI ob 13) ^^^ (-1 : Int32))) ((gA ob 3 i1) &&& ((gI ob 13) ^^^ (-1 : Int32)))
            else
              (X_lowestBit NF ob ((gA ob 2 i1) &&& ((gI ob 13) ^^^ (-1 : Int32)))).bind fun r19 =>
              (X_assign ob r19 (1 : Int32)).bind fun q21 =>
              some ((1 : Int32), q21)
          else
            X_propagateClause_b120 NF ob ((gA ob 2 i1) &&& ((gI ob 13) ^^^ (-1 : Int32))) ((gA ob 3 i1) &&& ((gI ob 13) ^^^ (-1 : Int32)))
      else
        some ((1 : Int32), ob)
    else
      some ((1 : Int32), ob)
set_option maxRecDepth 65536 in
set_option maxHeartbeats 4000000 in
theorem X_propagateClause_p {C : Ctx} {top : Nat} {a : Nat} {H : List (Nat × Nat × Rec)} {res : Int32 × Rec} {NF : Nat} (ob : Rec) (i1 : Int32) (hf : X_propagateClause NF ob i1 = some res) : Runs C B20 0 0 0 [vr a, vi i1, vn, vn, vn, vn, vn, vn, vn] [] (top, (a, 17, ob) :: H) (Ans (some (.int res.1)) (top, (a, 17, res.2) :: H)) := by
  delta X_propagateClause at hf
  refine Runs.iloadN d20_0 rfl <| ?_
  refine ite_el hf (fun hc9 hf => ?_) (fun hc9 hf => ?_)
  · refine Runs.ifY (pc' := 10) d20_1 (tlt hc9).1 (by decide) <| ?_
    obtain rfl := Option.some.inj hf
    exact Runs.iconst d20_10 ci_1 <| Runs.retZ (y := (1 : Int32)) d20_11 rfl ⟨by decide, by decide⟩ rfl ⟨rfl, rfl⟩
  · refine Runs.ifN d20_1 (flt hc9).1 <| ?_
    refine Runs.iloadN d20_4 rfl <| Runs.bipush d20_5 cb_24 <| ?_
    refine ite_el hf (fun hc10 hf => ?_) (fun hc10 hf => ?_)
    · refine Runs.icY (pc' := 12) d20_7 (tlt hc10).1 (by decide) <| ?_
      refine Runs.aloadN d20_12 rfl <| Runs.getA d20_13 fA_2 w15 (by decide) <| Runs.iloadN d20_16 rfl <| ?_
      refine chk_el hf fun hi11 hf => ?_
      refine Runs.ialoadA d20_17 fA_2 (by decide) hi11 <| Runs.istoreN (P' := [vr a, vi i1, vi (gA ob 2 i1), vn, vn, vn, vn, vn, vn]) d20_18 (by decide) rfl <| Runs.aloadN d20_19 rfl <| Runs.getA d20_20 fA_3 w17 (by decide) <| Runs.iloadN d20_23 rfl <| ?_
      refine chk_el hf fun hi12 hf => ?_
      refine Runs.ialoadA d20_24 fA_3 (by decide) hi12 <| Runs.istoreN (P' := [vr a, vi i1, vi (gA ob 2 i1), vi (gA ob 3 i1), vn, vn, vn, vn, vn]) d20_25 (by decide) rfl <| Runs.aloadN d20_26 rfl <| Runs.getI d20_27 w139 fS_13 <| Runs.istore (P' := [vr a, vi i1, vi (gA ob 2 i1), vi (gA ob 3 i1), vi (gI ob 13), vn, vn, vn, vn]) d20_30 (by decide) rfl <| Runs.iloadN d20_32 rfl <| Runs.iload d20_33 rfl <| Runs.iand d20_35 <| Runs.aloadN d20_36 rfl <| Runs.getI d20_37 w141 fS_14 <| Runs.iand d20_40 <| Runs.iloadN d20_41 rfl <| ?_
      refine Runs.iload d20_42 rfl <| Runs.iand d20_44 <| Runs.aloadN d20_45 rfl <| Runs.getI d20_46 w141 fS_14 <| Runs.iconst d20_49 ci_m1 <| Runs.ixor d20_50 <| Runs.iand d20_51 <| Runs.ior d20_52 <| Runs.istore (P' := [vr a, vi i1, vi (gA ob 2 i1), vi (gA ob 3 i1), vi (gI ob 13), vi ((((gA ob 2 i1) &&& (gI ob 13)) &&& (gI ob 14)) ||| (((gA ob 3 i1) &&& (gI ob 13)) &&& ((gI ob 14) ^^^ (-1 : Int32)))), vn, vn, vn]) d20_53 (by decide) rfl <| Runs.iload d20_55 rfl <| ?_
      refine ite_el hf (fun hc13 hf => ?_) (fun hc13 hf => ?_)
      · refine Runs.ifY (pc' := 62) d20_57 (teq hc13).1 (by decide) <| ?_
        refine Runs.iloadN d20_62 rfl <| Runs.iload d20_63 rfl <| Runs.iconst d20_65 ci_m1 <| Runs.ixor d20_66 <| Runs.iand d20_67 <| Runs.istore (P' := [vr a, vi i1, vi (gA ob 2 i1), vi (gA ob 3 i1), vi (gI ob 13), vi ((((gA ob 2 i1) &&& (gI ob 13)) &&& (gI ob 14)) ||| (((gA ob 3 i1) &&& (gI ob 13)) &&& ((gI ob 14) ^^^ (-1 : Int32)))), vi ((gA ob 2 i1) &&& ((gI ob 13) ^^^ (-1 : Int32))), vn, vn]) d20_68 (by decide) rfl <| Runs.iloadN d20_70 rfl <| Runs.iload d20_71 rfl <| Runs.iconst d20_73 ci_m1 <| Runs.ixor d20_74 <| Runs.iand d20_75 <| Runs.istore (P' := [vr a, vi i1, vi (gA ob 2 i1), vi (gA ob 3 i1), vi (gI ob 13), vi ((((gA ob 2 i1) &&& (gI ob 13)) &&& (gI ob 14)) ||| (((gA ob 3 i1) &&& (gI ob 13)) &&& ((gI ob 14) ^^^ (-1 : Int32)))), vi ((gA ob 2 i1) &&& ((gI ob 13) ^^^ (-1 : Int32))), vi ((gA ob 3 i1) &&& ((gI ob 13) ^^^ (-1 : Int32))), vn]) d20_76 (by decide) rfl <| ?_
        refine Runs.iload d20_78 rfl <| Runs.iload d20_80 rfl <| Runs.ior d20_82 <| ?_
        refine ite_el hf (fun hc14 hf => ?_) (fun hc14 hf => ?_)
        · refine Runs.ifN d20_83 (teq hc14).2 <| ?_
          obtain rfl := Option.some.inj hf
          exact Runs.iconst d20_86 ci_0 <| Runs.retZ (y := (0 : Int32)) d20_87 rfl ⟨by decide, by decide⟩ rfl ⟨rfl, rfl⟩
        · refine Runs.ifY (pc' := 88) d20_83 (feq hc14).2 (by decide) <| ?_
          refine Runs.iload d20_88 rfl <| ?_
          refine ite_el hf (fun hc15 hf => ?_) (fun hc15 hf => ?_)
          · refine Runs.ifN d20_90 (teq hc15).2 <| ?_
            refine Runs.aloadN d20_93 rfl <| Runs.iload d20_94 rfl <| ?_
            refine bind_el hf fun r16 hg17 hf => ?_
            refine Runs.callP (N := B21) (W := 0) (as := [.int ((gA ob 2 i1) &&& ((gI ob 13) ^^^ (-1 : Int32)))]) (S' := []) d20_96 w161 w162 w163 rfl cw21 ar21 rk20_21_0 (by decide) rfl rfl (X_isSingleBit_pay hg17) <| ans1 <| ?_
            refine ite_el hf (fun hc18 hf => ?_) (fun hc18 hf => ?_)
            · exact Runs.ifY (pc' := 120) d20_99 (teq hc18).1 (by decide) <| Runs.forget [true, false, false, false, false, false, true, true, false] rfl <| X_propagateClause_b120_p ob ((gA ob 2 i1) &&& ((gI ob 13) ^^^ (-1 : Int32))) ((gA ob 3 i1) &&& ((gI ob 13) ^^^ (-1 : Int32))) hf
            · refine Runs.ifN d20_99 (feq hc18).1 <| ?_
              refine Runs.aloadN d20_102 rfl <| Runs.iload d20_103 rfl <| ?_
              refine bind_el hf fun r19 hg20 hf => ?_
              refine Runs.callP (N := B28) (W := 0) (as := [.int ((gA ob 2 i1) &&& ((gI ob 13) ^^^ (-1 : Int32)))]) (S' := []) d20_105 w189 w190 w191 rfl cw28 ar28 rk20_28_0 (by decide) rfl rfl (X_lowestBit_pay hg20) <| ans1 <| Runs.istore (P' := [vr a, vi i1, vi (gA ob 2 i1), vi (gA ob 3 i1), vi (gI ob 13), vi ((((gA ob 2 i1) &&& (gI ob 13)) &&& (gI ob 14)) ||| (((gA ob 3 i1) &&& (gI ob 13)) &&& ((gI ob 14) ^^^ (-1 : Int32)))), vi ((gA ob 2 i1) &&& ((gI ob 13) ^^^ (-1 : Int32))), vi ((gA ob 3 i1) &&& ((gI ob 13) ^^^ (-1 : Int32))), vi r19]) d20_108 (by decide) rfl <| Runs.aloadN d20_110 rfl <| Runs.iload d20_111 rfl <| Runs.iconst d20_113 ci_1 <| ?_
              refine bind_el hf fun q21 hg22 hf => ?_
              obtain rfl := Option.some.inj hf
              exact Runs.callP (N := B27) (W := 0) (as := [.int r19, .int (1 : Int32)]) (S' := []) d20_114 w185 w186 w187 rfl cw27 ar27 rk20_27_0 (by decide) rfl rfl (X_assign_pay hg22) <| ans0 <| Runs.goto (pc' := 149) d20_117 (by decide) <| Runs.iconst d20_149 ci_1 <| Runs.retZ (y := (1 : Int32)) d20_150 rfl ⟨by decide, by decide⟩ rfl ⟨rfl, rfl⟩
          · exact Runs.ifY (pc' := 120) d20_90 (feq hc15).2 (by decide) <| Runs.forget [true, false, false, false, false, false, true, true, false] rfl <| X_propagateClause_b120_p ob ((gA ob 2 i1) &&& ((gI ob 13) ^^^ (-1 : Int32))) ((gA ob 3 i1) &&& ((gI ob 13) ^^^ (-1 : Int32))) hf
      · refine Runs.ifN d20_57 (feq hc13).1 <| ?_
        obtain rfl := Option.some.inj hf
        exact Runs.iconst d20_60 ci_1 <| Runs.retZ (y := (1 : Int32)) d20_61 rfl ⟨by decide, by decide⟩ rfl ⟨rfl, rfl⟩
    · refine Runs.icN d20_7 (flt hc10).1 <| ?_
      obtain rfl := Option.some.inj hf
      exact Runs.iconst d20_10 ci_1 <| Runs.retZ (y := (1 : Int32)) d20_11 rfl ⟨by decide, by decide⟩ rfl ⟨rfl, rfl⟩
theorem X_propagateClause_pay {C : Ctx} {top : Nat} {a : Nat} {H : List (Nat × Nat × Rec)} {res : Int32 × Rec} {NF : Nat} {ob : Rec} {i1 : Int32} (hf : X_propagateClause NF ob i1 = some res) : Pays C B20 [.ref a, .int i1] (top, (a, 17, ob) :: H) (Ans (some (.int res.1)) (top, (a, 17, res.2) :: H)) :=
  Pays.of pnK (Nat.le_of_ble_eq_true rfl) (P := [vr a, vi i1, vn, vn, vn, vn, vn, vn, vn]) 7 rfl (X_propagateClause_p ob i1 hf)
def X_propagateClauses_w2 (NF : Nat) (k2 : Rec → Int32 → Option (Int32 × Rec)) (ob : Rec) (i1 : Int32) : Option (Int32 × Rec) :=
  if i1 < (gI ob 5) then
    if i1 < (24 : Int32) then
      bind2 (X_propagateClause NF ob i1) fun r3 q4 =>
      if r3 = (0 : Int32) then
        some ((0 : Int32), q4)
      else
        k2 q4 (i1 + (1 : Int32))
    else
      some ((1 : Int32), ob)
  else
    some ((1 : Int32), ob)
def X_propagateClauses_l2 (NF : Nat) : Nat → Rec → Int32 → Option (Int32 × Rec)
  | 0, _, _ => none
  | n + 1, ob, i1 => X_propagateClauses_w2 NF (X_propagateClauses_l2 NF n) ob i1
set_option maxRecDepth 65536 in
set_option maxHeartbeats 4000000 in
theorem X_propagateClauses_w2_p {C : Ctx} {top : Nat} {a : Nat} {H : List (Nat × Nat × Rec)} {res : Int32 × Rec} {NF : Nat} (k2 : Rec → Int32 → Option (Int32 × Rec)) (hk2 : ∀ (ob : Rec) (i1 : Int32), k2 ob i1 = some res → Runs C B19 0 0 2 [vr a, vi i1] [] (top, (a, 17, ob) :: H) (Ans (some (.int res.1)) (top, (a, 17, res.2) :: H))) (ob : Rec) (i1 : Int32) (hf : X_propagateClauses_w2 NF k2 ob i1 = some res) : Runs C B19 0 0 2 [vr a, vi i1] [] (top, (a, 17, ob) :: H) (Ans (some (.int res.1)) (top, (a, 17, res.2) :: H)) := by
  delta X_propagateClauses_w2 at hf
  refine Runs.iloadN d19_2 rfl <| Runs.aloadN d19_3 rfl <| Runs.getI d19_4 w55 fS_5 <| ?_
  refine ite_el hf (fun hc1 hf => ?_) (fun hc1 hf => ?_)
  · refine Runs.icN d19_7 (tlt hc1).2.1 <| ?_
    refine Runs.iloadN d19_10 rfl <| Runs.bipush d19_11 cb_24 <| ?_
    refine ite_el hf (fun hc2 hf => ?_) (fun hc2 hf => ?_)
    · refine Runs.icN d19_13 (tlt hc2).2.1 <| ?_
      refine Runs.aloadN d19_16 rfl <| Runs.iloadN d19_17 rfl <| ?_
      refine bind2_el hf fun r3 q4 hg5 hf => ?_
      refine Runs.callP (N := B20) (W := 0) (as := [.int i1]) (S' := []) d19_18 w157 w158 w159 rfl cw20 ar20 rk19_20_0 (by decide) rfl rfl (X_propagateClause_pay hg5) <| ans1 <| ?_
      refine ite_el hf (fun hc6 hf => ?_) (fun hc6 hf => ?_)
      · refine Runs.ifN d19_21 (teq hc6).2 <| ?_
        obtain rfl := Option.some.inj hf
        exact Runs.iconst d19_24 ci_0 <| Runs.retZ (y := (0 : Int32)) d19_25 rfl ⟨by decide, by decide⟩ rfl ⟨rfl, rfl⟩
      · refine Runs.ifY (pc' := 26) d19_21 (feq hc6).2 (by decide) <| ?_
        exact Runs.iinc (P' := [vr a, vi (i1 + (1 : Int32))]) d19_26 ci_1 rfl (by decide) rfl <| Runs.goto (pc' := 2) d19_29 (by decide) <| hk2 q4 (i1 + (1 : Int32)) hf
    · refine Runs.icY (pc' := 32) d19_13 (flt hc2).2.1 (by decide) <| ?_
      obtain rfl := Option.some.inj hf
      exact Runs.iconst d19_32 ci_1 <| Runs.retZ (y := (1 : Int32)) d19_33 rfl ⟨by decide, by decide⟩ rfl ⟨rfl, rfl⟩
  · refine Runs.icY (pc' := 32) d19_7 (flt hc1).2.1 (by decide) <| ?_
    obtain rfl := Option.some.inj hf
    exact Runs.iconst d19_32 ci_1 <| Runs.retZ (y := (1 : Int32)) d19_33 rfl ⟨by decide, by decide⟩ rfl ⟨rfl, rfl⟩
theorem X_propagateClauses_l2_p {C : Ctx} {top : Nat} {a : Nat} {H : List (Nat × Nat × Rec)} {res : Int32 × Rec} {NF : Nat} (n : Nat) (ob : Rec) (i1 : Int32) (hf : X_propagateClauses_l2 NF n ob i1 = some res) : Runs C B19 0 0 2 [vr a, vi i1] [] (top, (a, 17, ob) :: H) (Ans (some (.int res.1)) (top, (a, 17, res.2) :: H)) := by
  induction n generalizing ob i1 with
  | zero => cases (show (none : Option (Int32 × Rec)) = some res from hf)
  | succ n ih => exact X_propagateClauses_w2_p (X_propagateClauses_l2 NF n) (fun ob i1 h => ih _ _ h) ob i1 hf
def X_propagateClauses (NF : Nat) (ob : Rec) : Option (Int32 × Rec) :=
  X_propagateClauses_l2 NF NF ob (0 : Int32)
set_option maxRecDepth 65536 in
set_option maxHeartbeats 4000000 in
theorem X_propagateClauses_p {C : Ctx} {top : Nat} {a : Nat} {H : List (Nat × Nat × Rec)} {res : Int32 × Rec} {NF : Nat} (ob : Rec) (hf : X_propagateClauses NF ob = some res) : Runs C B19 0 0 0 [vr a, vn] [] (top, (a, 17, ob) :: H) (Ans (some (.int res.1)) (top, (a, 17, res.2) :: H)) := by
  delta X_propagateClauses at hf
  exact Runs.iconst d19_0 ci_0 <| Runs.istoreN (P' := [vr a, vi (0 : Int32)]) d19_1 (by decide) rfl <| X_propagateClauses_l2_p NF ob (0 : Int32) hf
theorem X_propagateClauses_pay {C : Ctx} {top : Nat} {a : Nat} {H : List (Nat × Nat × Rec)} {res : Int32 × Rec} {NF : Nat} {ob : Rec} (hf : X_propagateClauses NF ob = some res) : Pays C B19 [.ref a] (top, (a, 17, ob) :: H) (Ans (some (.int res.1)) (top, (a, 17, res.2) :: H)) :=
  Pays.of pnK (Nat.le_of_ble_eq_true rfl) (P := [vr a, vn]) 1 rfl (X_propagateClauses_p ob hf)
def X_parity (ob : Rec) (i1 : Int32) : Option (Int32) :=
  (some ((i1 ^^^ ((i1.toUInt32 >>> ((16 : Int32) &&& 31).toUInt32).toInt32)) ^^^ (((i1 ^^^ ((i1.toUInt32 >>> ((16 : Int32) &&& 31).toUInt32).toInt32)).toUInt32 >>> ((8 : Int32) &&& 31).toUInt32).toInt32))).bind fun v1 =>
  (some ((v1 ^^^ ((v1.toUInt32 >>> ((4 : Int32) &&& 31).toUInt32).toInt32)) ^^^ (((v1 ^^^ ((v1.toUInt32 >>> ((4 : Int32) &&& 31).toUInt32).toInt32)).toUInt32 >>> ((2 : Int32) &&& 31).toUInt32).toInt32))).bind fun v2 =>
  some ((v2 ^^^ ((v2.toUInt32 >>> ((1 : Int32) &&& 31).toUInt32).toInt32)) &&& (1 : Int32))
set_option maxRecDepth 65536 in
set_option maxHeartbeats 4000000 in
theorem X_parity_p {C : Ctx} {top : Nat} {a : Nat} {H : List (Nat × Nat × Rec)} {ob : Rec} {res : Int32} (i1 : Int32) (hf : X_parity ob i1 = some res) : Runs C B24 0 0 0 [vr a, vi i1, vn] [] (top, (a, 17, ob) :: H) (Ans (some (.int res)) (top, (a, 17, ob) :: H)) := by
  delta X_parity at hf
  refine Runs.iloadN d24_0 rfl <| Runs.iloadN d24_1 rfl <| Runs.bipush d24_2 cb_16 <| Runs.iushr d24_4 <| Runs.ixor d24_5 <| Runs.istoreN (P' := [vr a, vi i1, vi (i1 ^^^ ((i1.toUInt32 >>> ((16 : Int32) &&& 31).toUInt32).toInt32))]) d24_6 (by decide) rfl <| Runs.iloadN d24_7 rfl <| Runs.iloadN d24_8 rfl <| Runs.bipush d24_9 cb_8 <| Runs.iushr d24_11 <| Runs.ixor d24_12 <| ?_
  refine bind_el hf fun v1 hv1 hf => ?_
  rw [Option.some.inj hv1]
  refine Runs.istoreN (P' := [vr a, vi i1, vi v1]) d24_13 (by decide) rfl <| Runs.iloadN d24_14 rfl <| Runs.iloadN d24_15 rfl <| Runs.iconst d24_16 ci_4 <| Runs.iushr d24_17 <| Runs.ixor d24_18 <| Runs.istoreN (P' := [vr a, vi i1, vi (v1 ^^^ ((v1.toUInt32 >>> ((4 : Int32) &&& 31).toUInt32).toInt32))]) d24_19 (by decide) rfl <| Runs.iloadN d24_20 rfl <| Runs.iloadN d24_21 rfl <| Runs.iconst d24_22 ci_2 <| Runs.iushr d24_23 <| Runs.ixor d24_24 <| ?_
  refine bind_el hf fun v2 hv2 hf => ?_
  rw [Option.some.inj hv2]
  obtain rfl := Option.some.inj hf
  exact Runs.istoreN (P' := [vr a, vi i1, vi v2]) d24_25 (by decide) rfl <| Runs.iloadN d24_26 rfl <| Runs.iloadN d24_27 rfl <| Runs.iconst d24_28 ci_1 <| Runs.iushr d24_29 <| Runs.ixor d24_30 <| Runs.istoreN (P' := [vr a, vi i1, vi (v2 ^^^ ((v2.toUInt32 >>> ((1 : Int32) &&& 31).toUInt32).toInt32))]) d24_31 (by decide) rfl <| Runs.iloadN d24_32 rfl <| Runs.iconst d24_33 ci_1 <| Runs.iand d24_34 <| Runs.retI d24_35 rfl ⟨by decide, by decide⟩ ⟨rfl, rfl⟩
theorem X_parity_pay {C : Ctx} {top : Nat} {a : Nat} {H : List (Nat × Nat × Rec)} {ob : Rec} {res : Int32} {i1 : Int32} (hf : X_parity ob i1 = some res) : Pays C B24 [.ref a, .int i1] (top, (a, 17, ob) :: H) (Ans (some (.int res)) (top, (a, 17, ob) :: H)) :=
  Pays.of pnK (Nat.le_of_ble_eq_true rfl) (P := [vr a, vi i1, vn]) 1 rfl (X_parity_p i1 hf)
def X_loadResidualRows_w7 (NF : Nat) (k7 : Rec → Int32 → Option (Rec)) (ob : Rec) (i1 : Int32) : Option (Rec) :=
  if i1 < (gI ob 8) then
    if i1 < (16 : Int32) then
      chk (16 : Int32) i1 <|
      chk (16 : Int32) i1 <|
      chk (16 : Int32) i1 <|
      (X_parity (sA ob 10 i1 ((gA ob 7 i1) &&& ((gI ob 13) ^^^ (-1 : Int32)))) (((gA ob 7 i1) &&& (gI ob 13)) &&& (gI ob 14))).bind fun r6 =>
      chk (16 : Int32) i1 <|
      k7 (sI (sA (sA ob 10 i1 ((gA ob 7 i1) &&& ((gI ob 13) ^^^ (-1 : Int32)))) 11 i1 ((gA ob 8 i1) ^^^ r6)) 11 ((gI ob 11) + (1 : Int32))) (i1 + (1 : Int32))
    else
      some ob
  else
    some ob
def X_loadResidualRows_l7 (NF : Nat) : Nat → Rec → Int32 → Option (Rec)
  | 0, _, _ => none
  | n + 1, ob, i1 => X_loadResidualRows_w7 NF (X_loadResidualRows_l7 NF n) ob i1
set_option maxRecDepth 65536 in
set_option maxHeartbeats 4000000 in
theorem X_loadResidualRows_w7_p {C : Ctx} {top : Nat} {a : Nat} {H : List (Nat × Nat × Rec)} {res : Rec} {NF : Nat} (k7 : Rec → Int32 → Option (Rec)) (hk7 : ∀ (ob : Rec) (i1 : Int32), k7 ob i1 = some res → Runs C B23 0 0 7 [vr a, vi i1, vn] [] (top, (a, 17, ob) :: H) (Ans none (top, (a, 17, res) :: H))) (ob : Rec) (i1 : Int32) (hf : X_loadResidualRows_w7 NF k7 ob i1 = some res) : Runs C B23 0 0 7 [vr a, vi i1, vn] [] (top, (a, 17, ob) :: H) (Ans none (top, (a, 17, res) :: H)) := by
  delta X_loadResidualRows_w7 at hf
  refine Runs.iloadN d23_7 rfl <| Runs.aloadN d23_8 rfl <| Runs.getI d23_9 w65 fS_8 <| ?_
  refine ite_el hf (fun hc1 hf => ?_) (fun hc1 hf => ?_)
  · refine Runs.icN d23_12 (tlt hc1).2.1 <| ?_
    refine Runs.iloadN d23_15 rfl <| Runs.bipush d23_16 cb_16 <| ?_
    refine ite_el hf (fun hc2 hf => ?_) (fun hc2 hf => ?_)
    · refine Runs.icN d23_18 (tlt hc2).2.1 <| ?_
      refine Runs.aloadN d23_21 rfl <| Runs.getA d23_22 fA_7 w25 (by decide) <| Runs.iloadN d23_25 rfl <| ?_
      refine chk_el hf fun hi3 hf => ?_
      refine Runs.ialoadA d23_26 fA_7 (by decide) hi3 <| Runs.istoreN (P' := [vr a, vi i1, vi (gA ob 7 i1)]) d23_27 (by decide) rfl <| Runs.aloadN d23_28 rfl <| Runs.getA d23_29 fA_10 w31 (by decide) <| Runs.iloadN d23_32 rfl <| Runs.iloadN d23_33 rfl <| Runs.aloadN d23_34 rfl <| Runs.getI d23_35 w139 fS_13 <| Runs.iconst d23_38 ci_m1 <| Runs.ixor d23_39 <| Runs.iand d23_40 <| ?_
      refine chk_el hf fun hi4 hf => ?_
      refine Runs.iastoreA d23_41 fA_10 (by decide) hi4 <| Runs.aloadN d23_42 rfl <| Runs.getA d23_43 fA_11 w33 (by decide) <| Runs.iloadN d23_46 rfl <| Runs.aloadN d23_47 rfl <| Runs.getA d23_48 fA_8 w27 (by decide) <| Runs.iloadN d23_51 rfl <| ?_
      refine chk_el hf fun hi5 hf => ?_
      refine Runs.ialoadA d23_52 fA_8 (by decide) hi5 <| Runs.aloadN d23_53 rfl <| Runs.iloadN d23_54 rfl <| Runs.aloadN d23_55 rfl <| Runs.getI d23_56 w139 fS_13 <| Runs.iand d23_59 <| Runs.aloadN d23_60 rfl <| Runs.getI d23_61 w141 fS_14 <| Runs.iand d23_64 <| ?_
      refine bind_el hf fun r6 hg7 hf => ?_
      refine Runs.callP (N := B24) (W := 3) (as := [.int (((gA ob 7 i1) &&& (gI ob 13)) &&& (gI ob 14))]) (S' := [.int (gA ob 8 i1), .int i1, .ref (a + 1 + 11)]) d23_65 w173 w174 w175 rfl cw24 ar24 rk23_24_3 (by decide) rfl rfl (X_parity_pay hg7) <| ans1 <| Runs.ixor d23_68 <| ?_
      refine chk_el hf fun hi8 hf => ?_
      exact Runs.iastoreA d23_69 fA_11 (by decide) hi8 <| Runs.aloadN d23_70 rfl <| Runs.dup d23_71 rfl <| Runs.getI d23_72 w111 fS_11 <| Runs.iconst d23_75 ci_1 <| Runs.iadd d23_76 <| Runs.putI d23_77 w111 fS_11 (Or.inl w112) <| Runs.iinc (P' := [vr a, vi (i1 + (1 : Int32)), vi (gA ob 7 i1)]) d23_80 ci_1 rfl (by decide) rfl <| Runs.goto (pc' := 7) d23_83 (by decide) <| Runs.forget [true, true, false] rfl <| hk7 (sI (sA (sA ob 10 i1 ((gA ob 7 i1) &&& ((gI ob 13) ^^^ (-1 : Int32)))) 11 i1 ((gA ob 8 i1) ^^^ r6)) 11 ((gI ob 11) + (1 : Int32))) (i1 + (1 : Int32)) hf
    · refine Runs.icY (pc' := 86) d23_18 (flt hc2).2.1 (by decide) <| ?_
      obtain rfl := Option.some.inj hf
      exact Runs.retV d23_86 rfl ⟨by decide, by decide⟩ ⟨rfl, rfl⟩
  · refine Runs.icY (pc' := 86) d23_12 (flt hc1).2.1 (by decide) <| ?_
    obtain rfl := Option.some.inj hf
    exact Runs.retV d23_86 rfl ⟨by decide, by decide⟩ ⟨rfl, rfl⟩
theorem X_loadResidualRows_l7_p {C : Ctx} {top : Nat} {a : Nat} {H : List (Nat × Nat × Rec)} {res : Rec} {NF : Nat} (n : Nat) (ob : Rec) (i1 : Int32) (hf : X_loadResidualRows_l7 NF n ob i1 = some res) : Runs C B23 0 0 7 [vr a, vi i1, vn] [] (top, (a, 17, ob) :: H) (Ans none (top, (a, 17, res) :: H)) := by
  induction n generalizing ob i1 with
  | zero => cases (show (none : Option (Rec)) = some res from hf)
  | succ n ih => exact X_loadResidualRows_w7_p (X_loadResidualRows_l7 NF n) (fun ob i1 h => ih _ _ h) ob i1 hf
def X_loadResidualRows (NF : Nat) (ob : Rec) : Option (Rec) :=
  X_loadResidualRows_l7 NF NF (sI ob 11 (0 : Int32)) (0 : Int32)
set_option maxRecDepth 65536 in
set_option maxHeartbeats 4000000 in
theorem X_loadResidualRows_p {C : Ctx} {top : Nat} {a : Nat} {H : List (Nat × Nat × Rec)} {res : Rec} {NF : Nat} (ob : Rec) (hf : X_loadResidualRows NF ob = some res) : Runs C B23 0 0 0 [vr a, vn, vn] [] (top, (a, 17, ob) :: H) (Ans none (top, (a, 17, res) :: H)) := by
  delta X_loadResidualRows at hf
  exact Runs.aloadN d23_0 rfl <| Runs.iconst d23_1 ci_0 <| Runs.putI d23_2 w111 fS_11 (Or.inl w112) <| Runs.iconst d23_5 ci_0 <| Runs.istoreN (P' := [vr a, vi (0 : Int32), vn]) d23_6 (by decide) rfl <| X_loadResidualRows_l7_p NF (sI ob 11 (0 : Int32)) (0 : Int32) hf
theorem X_loadResidualRows_pay {C : Ctx} {top : Nat} {a : Nat} {H : List (Nat × Nat × Rec)} {res : Rec} {NF : Nat} {ob : Rec} (hf : X_loadResidualRows NF ob = some res) : Pays C B23 [.ref a] (top, (a, 17, ob) :: H) (Ans none (top, (a, 17, res) :: H)) :=
  Pays.of pnK (Nat.le_of_ble_eq_true rfl) (P := [vr a, vn, vn]) 2 rfl (X_loadResidualRows_p ob hf)
def X_propagateXors_w10 (NF : Nat) (k10 : Rec → Int32 → Option (Int32 × Rec)) (ob : Rec) (i1 : Int32) : Option (Int32 × Rec) :=
  if i1 < (gI ob 11) then
    if i1 < (16 : Int32) then
      chk (16 : Int32) i1 <|
      if (gA ob 10 i1) = (0 : Int32) then
        chk (16 : Int32) i1 <|
        if (gA ob 11 i1) = (0 : Int32) then
          k10 ob (i1 + (1 : Int32))
        else
          some ((0 : Int32), ob)
      else
        (X_isSingleBit ob (gA ob 10 i1)).bind fun r7 =>
        if r7 = (0 : Int32) then
          k10 ob (i1 + (1 : Int32))
        else
          (X_lowestBit NF ob (gA ob 10 i1)).bind fun r10 =>
          chk (16 : Int32) i1 <|
          (X_assign ob r10 (gA ob 11 i1)).bind fun q13 =>
          k10 q13 (i1 + (1 : Int32))
    else
      some ((1 : Int32), ob)
  else
    some ((1 : Int32), ob)
def X_propagateXors_l10 (NF : Nat) : Nat → Rec → Int32 → Option (Int32 × Rec)
  | 0, _, _ => none
  | n + 1, ob, i1 => X_propagateXors_w10 NF (X_propagateXors_l10 NF n) ob i1
set_option maxRecDepth 65536 in
set_option maxHeartbeats 4000000 in
theorem X_propagateXors_w10_p {C : Ctx} {top : Nat} {a : Nat} {H : List (Nat × Nat × Rec)} {res : Int32 × Rec} {NF : Nat} (k10 : Rec → Int32 → Option (Int32 × Rec)) (hk10 : ∀ (ob : Rec) (i1 : Int32), k10 ob i1 = some res → Runs C B22 0 0 10 [vr a, vi i1, vn, vn] [] (top, (a, 17, ob) :: H) (Ans (some (.int res.1)) (top, (a, 17, res.2) :: H))) (ob : Rec) (i1 : Int32) (hf : X_propagateXors_w10 NF k10 ob i1 = some res) : Runs C B22 0 0 10 [vr a, vi i1, vn, vn] [] (top, (a, 17, ob) :: H) (Ans (some (.int res.1)) (top, (a, 17, res.2) :: H)) := by
  delta X_propagateXors_w10 at hf
  refine Runs.iloadN d22_10 rfl <| Runs.aloadN d22_11 rfl <| Runs.getI d22_12 w111 fS_11 <| ?_
  refine ite_el hf (fun hc1 hf => ?_) (fun hc1 hf => ?_)
  · refine Runs.icN d22_15 (tlt hc1).2.1 <| ?_
    refine Runs.iloadN d22_18 rfl <| Runs.bipush d22_19 cb_16 <| ?_
    refine ite_el hf (fun hc2 hf => ?_) (fun hc2 hf => ?_)
    · refine Runs.icN d22_21 (tlt hc2).2.1 <| ?_
      refine Runs.aloadN d22_24 rfl <| Runs.getA d22_25 fA_10 w31 (by decide) <| Runs.iloadN d22_28 rfl <| ?_
      refine chk_el hf fun hi3 hf => ?_
      refine Runs.ialoadA d22_29 fA_10 (by decide) hi3 <| Runs.istoreN (P' := [vr a, vi i1, vi (gA ob 10 i1), vn]) d22_30 (by decide) rfl <| Runs.iloadN d22_31 rfl <| ?_
      refine ite_el hf (fun hc4 hf => ?_) (fun hc4 hf => ?_)
      · refine Runs.ifN d22_32 (teq hc4).2 <| ?_
        refine Runs.aloadN d22_35 rfl <| Runs.getA d22_36 fA_11 w33 (by decide) <| Runs.iloadN d22_39 rfl <| ?_
        refine chk_el hf fun hi5 hf => ?_
        refine Runs.ialoadA d22_40 fA_11 (by decide) hi5 <| ?_
        refine ite_el hf (fun hc6 hf => ?_) (fun hc6 hf => ?_)
        · refine Runs.ifY (pc' := 71) d22_41 (teq hc6).1 (by decide) <| ?_
          exact Runs.iinc (P' := [vr a, vi (i1 + (1 : Int32)), vi (gA ob 10 i1), vn]) d22_71 ci_1 rfl (by decide) rfl <| Runs.goto (pc' := 10) d22_74 (by decide) <| Runs.forget [true, true, false, false] rfl <| hk10 ob (i1 + (1 : Int32)) hf
        · refine Runs.ifN d22_41 (feq hc6).1 <| ?_
          obtain rfl := Option.some.inj hf
          exact Runs.iconst d22_44 ci_0 <| Runs.retZ (y := (0 : Int32)) d22_45 rfl ⟨by decide, by decide⟩ rfl ⟨rfl, rfl⟩
      · refine Runs.ifY (pc' := 46) d22_32 (feq hc4).2 (by decide) <| ?_
        refine Runs.aloadN d22_46 rfl <| Runs.iloadN d22_47 rfl <| ?_
        refine bind_el hf fun r7 hg8 hf => ?_
        refine Runs.callP (N := B21) (W := 0) (as := [.int (gA ob 10 i1)]) (S' := []) d22_48 w161 w162 w163 rfl cw21 ar21 rk22_21_0 (by decide) rfl rfl (X_isSingleBit_pay hg8) <| ans1 <| ?_
        refine ite_el hf (fun hc9 hf => ?_) (fun hc9 hf => ?_)
        · refine Runs.ifY (pc' := 71) d22_51 (teq hc9).1 (by decide) <| ?_
          exact Runs.iinc (P' := [vr a, vi (i1 + (1 : Int32)), vi (gA ob 10 i1), vn]) d22_71 ci_1 rfl (by decide) rfl <| Runs.goto (pc' := 10) d22_74 (by decide) <| Runs.forget [true, true, false, false] rfl <| hk10 ob (i1 + (1 : Int32)) hf
        · refine Runs.ifN d22_51 (feq hc9).1 <| ?_
          refine Runs.aloadN d22_54 rfl <| Runs.iloadN d22_55 rfl <| ?_
          refine bind_el hf fun r10 hg11 hf => ?_
          refine Runs.callP (N := B28) (W := 0) (as := [.int (gA ob 10 i1)]) (S' := []) d22_56 w189 w190 w191 rfl cw28 ar28 rk22_28_0 (by decide) rfl rfl (X_lowestBit_pay hg11) <| ans1 <| Runs.istoreN (P' := [vr a, vi i1, vi (gA ob 10 i1), vi r10]) d22_59 (by decide) rfl <| Runs.aloadN d22_60 rfl <| Runs.iloadN d22_61 rfl <| Runs.aloadN d22_62 rfl <| Runs.getA d22_63 fA_11 w33 (by decide) <| Runs.iloadN d22_66 rfl <| ?_
          refine chk_el hf fun hi12 hf => ?_
          refine Runs.ialoadA d22_67 fA_11 (by decide) hi12 <| ?_
          refine bind_el hf fun q13 hg14 hf => ?_
          exact Runs.callP (N := B27) (W := 0) (as := [.int r10, .int (gA ob 11 i1)]) (S' := []) d22_68 w185 w186 w187 rfl cw27 ar27 rk22_27_0 (by decide) rfl rfl (X_assign_pay hg14) <| ans0 <| Runs.iinc (P' := [vr a, vi (i1 + (1 : Int32)), vi (gA ob 10 i1), vi r10]) d22_71 ci_1 rfl (by decide) rfl <| Runs.goto (pc' := 10) d22_74 (by decide) <| Runs.forget [true, true, false, false] rfl <| hk10 q13 (i1 + (1 : Int32)) hf
    · refine Runs.icY (pc' := 77) d22_21 (flt hc2).2.1 (by decide) <| ?_
      obtain rfl := Option.some.inj hf
      exact Runs.iconst d22_77 ci_1 <| Runs.retZ (y := (1 : Int32)) d22_78 rfl ⟨by decide, by decide⟩ rfl ⟨rfl, rfl⟩
  · refine Runs.icY (pc' := 77) d22_15 (flt hc1).2.1 (by decide) <| ?_
    obtain rfl := Option.some.inj hf
    exact Runs.iconst d22_77 ci_1 <| Runs.retZ (y := (1 : Int32)) d22_78 rfl ⟨by decide, by decide⟩ rfl ⟨rfl, rfl⟩
theorem X_propagateXors_l10_p {C : Ctx} {top : Nat} {a : Nat} {H : List (Nat × Nat × Rec)} {res : Int32 × Rec} {NF : Nat} (n : Nat) (ob : Rec) (i1 : Int32) (hf : X_propagateXors_l10 NF n ob i1 = some res) : Runs C B22 0 0 10 [vr a, vi i1, vn, vn] [] (top, (a, 17, ob) :: H) (Ans (some (.int res.1)) (top, (a, 17, res.2) :: H)) := by
  induction n generalizing ob i1 with
  | zero => cases (show (none : Option (Int32 × Rec)) = some res from hf)
  | succ n ih => exact X_propagateXors_w10_p (X_propagateXors_l10 NF n) (fun ob i1 h => ih _ _ h) ob i1 hf
def X_propagateXors (NF : Nat) (ob : Rec) : Option (Int32 × Rec) :=
  (X_loadResidualRows NF ob).bind fun q15 =>
  (X_eliminate NF q15).bind fun q17 =>
  X_propagateXors_l10 NF NF q17 (0 : Int32)
set_option maxRecDepth 65536 in
set_option maxHeartbeats 4000000 in
theorem X_propagateXors_p {C : Ctx} {top : Nat} {a : Nat} {H : List (Nat × Nat × Rec)} {res : Int32 × Rec} {NF : Nat} (ob : Rec) (hf : X_propagateXors NF ob = some res) : Runs C B22 0 0 0 [vr a, vn, vn, vn] [] (top, (a, 17, ob) :: H) (Ans (some (.int res.1)) (top, (a, 17, res.2) :: H)) := by
  delta X_propagateXors at hf
  refine Runs.aloadN d22_0 rfl <| ?_
  refine bind_el hf fun q15 hg16 hf => ?_
  refine Runs.callP (N := B23) (W := 0) (as := []) (S' := []) d22_1 w169 w170 w171 rfl cw23 ar23 rk22_23_0 (by decide) rfl rfl (X_loadResidualRows_pay hg16) <| ans0 <| Runs.aloadN d22_4 rfl <| ?_
  refine bind_el hf fun q17 hg18 hf => ?_
  exact Runs.callP (N := B12) (W := 0) (as := []) (S' := []) d22_5 w113 w114 w115 rfl cw12 ar12 rk22_12_0 (by decide) rfl rfl (X_eliminate_pay hg18) <| ans0 <| Runs.iconst d22_8 ci_0 <| Runs.istoreN (P' := [vr a, vi (0 : Int32), vn, vn]) d22_9 (by decide) rfl <| X_propagateXors_l10_p NF q17 (0 : Int32) hf
theorem X_propagateXors_pay {C : Ctx} {top : Nat} {a : Nat} {H : List (Nat × Nat × Rec)} {res : Int32 × Rec} {NF : Nat} {ob : Rec} (hf : X_propagateXors NF ob = some res) : Pays C B22 [.ref a] (top, (a, 17, ob) :: H) (Ans (some (.int res.1)) (top, (a, 17, res.2) :: H)) :=
  Pays.of pnK (Nat.le_of_ble_eq_true rfl) (P := [vr a, vn, vn, vn]) 3 rfl (X_propagateXors_p ob hf)
def X_propagate_w2 (NF : Nat) (k2 : Rec → Int32 → Option (Int32 × Rec)) (ob : Rec) (i1 : Int32) : Option (Int32 × Rec) :=
  if i1 < (14 : Int32) then
    bind2 (X_propagateClauses NF ob) fun r2 q3 =>
    if r2 = (0 : Int32) then
      some ((0 : Int32), q3)
    else
      bind2 (X_propagateXors NF q3) fun r6 q7 =>
      if r6 = (0 : Int32) then
        some ((0 : Int32), q7)
      else
        if (gI q7 15) = (gI ob 15) then
          some ((1 : Int32), q7)
        else
          k2 q7 (i1 + (1 : Int32))
  else
    some ((1 : Int32), ob)
def X_propagate_l2 (NF : Nat) : Nat → Rec → Int32 → Option (Int32 × Rec)
  | 0, _, _ => none
  | n + 1, ob, i1 => X_propagate_w2 NF (X_propagate_l2 NF n) ob i1
set_option maxRecDepth 65536 in
set_option maxHeartbeats 4000000 in
theorem X_propagate_w2_p {C : Ctx} {top : Nat} {a : Nat} {H : List (Nat × Nat × Rec)} {res : Int32 × Rec} {NF : Nat} (k2 : Rec → Int32 → Option (Int32 × Rec)) (hk2 : ∀ (ob : Rec) (i1 : Int32), k2 ob i1 = some res → Runs C B18 0 0 2 [vr a, vi i1, vn] [] (top, (a, 17, ob) :: H) (Ans (some (.int res.1)) (top, (a, 17, res.2) :: H))) (ob : Rec) (i1 : Int32) (hf : X_propagate_w2 NF k2 ob i1 = some res) : Runs C B18 0 0 2 [vr a, vi i1, vn] [] (top, (a, 17, ob) :: H) (Ans (some (.int res.1)) (top, (a, 17, res.2) :: H)) := by
  delta X_propagate_w2 at hf
  refine Runs.iloadN d18_2 rfl <| Runs.bipush d18_3 cb_14 <| ?_
  refine ite_el hf (fun hc1 hf => ?_) (fun hc1 hf => ?_)
  · refine Runs.icN d18_5 (tlt hc1).2.1 <| ?_
    refine Runs.aloadN d18_8 rfl <| Runs.getI d18_9 w143 fS_15 <| Runs.istoreN (P' := [vr a, vi i1, vi (gI ob 15)]) d18_12 (by decide) rfl <| Runs.aloadN d18_13 rfl <| ?_
    refine bind2_el hf fun r2 q3 hg4 hf => ?_
    refine Runs.callP (N := B19) (W := 0) (as := []) (S' := []) d18_14 w153 w154 w155 rfl cw19 ar19 rk18_19_0 (by decide) rfl rfl (X_propagateClauses_pay hg4) <| ans1 <| ?_
    refine ite_el hf (fun hc5 hf => ?_) (fun hc5 hf => ?_)
    · refine Runs.ifN d18_17 (teq hc5).2 <| ?_
      obtain rfl := Option.some.inj hf
      exact Runs.iconst d18_20 ci_0 <| Runs.retZ (y := (0 : Int32)) d18_21 rfl ⟨by decide, by decide⟩ rfl ⟨rfl, rfl⟩
    · refine Runs.ifY (pc' := 22) d18_17 (feq hc5).2 (by decide) <| ?_
      refine Runs.aloadN d18_22 rfl <| ?_
      refine bind2_el hf fun r6 q7 hg8 hf => ?_
      refine Runs.callP (N := B22) (W := 0) (as := []) (S' := []) d18_23 w165 w166 w167 rfl cw22 ar22 rk18_22_0 (by decide) rfl rfl (X_propagateXors_pay hg8) <| ans1 <| ?_
      refine ite_el hf (fun hc9 hf => ?_) (fun hc9 hf => ?_)
      · refine Runs.ifN d18_26 (teq hc9).2 <| ?_
        obtain rfl := Option.some.inj hf
        exact Runs.iconst d18_29 ci_0 <| Runs.retZ (y := (0 : Int32)) d18_30 rfl ⟨by decide, by decide⟩ rfl ⟨rfl, rfl⟩
      · refine Runs.ifY (pc' := 31) d18_26 (feq hc9).2 (by decide) <| ?_
        refine Runs.aloadN d18_31 rfl <| Runs.getI d18_32 w143 fS_15 <| Runs.iloadN d18_35 rfl <| ?_
        refine ite_el hf (fun hc10 hf => ?_) (fun hc10 hf => ?_)
        · refine Runs.icN d18_36 (teq hc10).2 <| ?_
          obtain rfl := Option.some.inj hf
          exact Runs.iconst d18_39 ci_1 <| Runs.retZ (y := (1 : Int32)) d18_40 rfl ⟨by decide, by decide⟩ rfl ⟨rfl, rfl⟩
        · refine Runs.icY (pc' := 41) d18_36 (feq hc10).2 (by decide) <| ?_
          exact Runs.iinc (P' := [vr a, vi (i1 + (1 : Int32)), vi (gI ob 15)]) d18_41 ci_1 rfl (by decide) rfl <| Runs.goto (pc' := 2) d18_44 (by decide) <| Runs.forget [true, true, false] rfl <| hk2 q7 (i1 + (1 : Int32)) hf
  · refine Runs.icY (pc' := 47) d18_5 (flt hc1).2.1 (by decide) <| ?_
    obtain rfl := Option.some.inj hf
    exact Runs.iconst d18_47 ci_1 <| Runs.retZ (y := (1 : Int32)) d18_48 rfl ⟨by decide, by decide⟩ rfl ⟨rfl, rfl⟩
theorem X_propagate_l2_p {C : Ctx} {top : Nat} {a : Nat} {H : List (Nat × Nat × Rec)} {res : Int32 × Rec} {NF : Nat} (n : Nat) (ob : Rec) (i1 : Int32) (hf : X_propagate_l2 NF n ob i1 = some res) : Runs C B18 0 0 2 [vr a, vi i1, vn] [] (top, (a, 17, ob) :: H) (Ans (some (.int res.1)) (top, (a, 17, res.2) :: H)) := by
  induction n generalizing ob i1 with
  | zero => cases (show (none : Option (Int32 × Rec)) = some res from hf)
  | succ n ih => exact X_propagate_w2_p (X_propagate_l2 NF n) (fun ob i1 h => ih _ _ h) ob i1 hf
def X_propagate (NF : Nat) (ob : Rec) : Option (Int32 × Rec) :=
  X_propagate_l2 NF NF ob (0 : Int32)
set_option maxRecDepth 65536 in
set_option maxHeartbeats 4000000 in
theorem X_propagate_p {C : Ctx} {top : Nat} {a : Nat} {H : List (Nat × Nat × Rec)} {res : Int32 × Rec} {NF : Nat} (ob : Rec) (hf : X_propagate NF ob = some res) : Runs C B18 0 0 0 [vr a, vn, vn] [] (top, (a, 17, ob) :: H) (Ans (some (.int res.1)) (top, (a, 17, res.2) :: H)) := by
  delta X_propagate at hf
  exact Runs.iconst d18_0 ci_0 <| Runs.istoreN (P' := [vr a, vi (0 : Int32), vn]) d18_1 (by decide) rfl <| X_propagate_l2_p NF ob (0 : Int32) hf
theorem X_propagate_pay {C : Ctx} {top : Nat} {a : Nat} {H : List (Nat × Nat × Rec)} {res : Int32 × Rec} {NF : Nat} {ob : Rec} (hf : X_propagate NF ob = some res) : Pays C B18 [.ref a] (top, (a, 17, ob) :: H) (Ans (some (.int res.1)) (top, (a, 17, res.2) :: H)) :=
  Pays.of pnK (Nat.le_of_ble_eq_true rfl) (P := [vr a, vn, vn]) 2 rfl (X_propagate_p ob hf)
def X_undoTo_w2 (NF : Nat) (k2 : Rec → Int32 → Int32 → Option (Rec)) (ob : Rec) (i1 : Int32) (i2 : Int32) : Option (Rec) :=
  if i2 < (12 : Int32) then
    if i1 < (gI ob 15) then
      if (0 : Int32) < (gI ob 15) then
        chk (12 : Int32) ((gI ob 15) - (1 : Int32)) <|
        k2 (sI (sI (sI ob 15 ((gI ob 15) - (1 : Int32))) 13 ((gI ob 13) &&& (((1 : Int32) <<< ((gA ob 13 ((gI ob 15) - (1 : Int32))) &&& 31)) ^^^ (-1 : Int32)))) 14 ((gI ob 14) &&& (((1 : Int32) <<< ((gA ob 13 ((gI ob 15) - (1 : Int32))) &&& 31)) ^^^ (-1 : Int32)))) i1 (i2 + (1 : Int32))
      else
        some ob
    else
      some ob
  else
    some ob
def X_undoTo_l2 (NF : Nat) : Nat → Rec → Int32 → Int32 → Option (Rec)
  | 0, _, _, _ => none
  | n + 1, ob, i1, i2 => X_undoTo_w2 NF (X_undoTo_l2 NF n) ob i1 i2
set_option maxRecDepth 65536 in
set_option maxHeartbeats 4000000 in
theorem X_undoTo_w2_p {C : Ctx} {top : Nat} {a : Nat} {H : List (Nat × Nat × Rec)} {res : Rec} {NF : Nat} (k2 : Rec → Int32 → Int32 → Option (Rec)) (hk2 : ∀ (ob : Rec) (i1 : Int32) (i2 : Int32), k2 ob i1 i2 = some res → Runs C B43 0 0 2 [vr a, vi i1, vi i2, vn, vn] [] (top, (a, 17, ob) :: H) (Ans none (top, (a, 17, res) :: H))) (ob : Rec) (i1 : Int32) (i2 : Int32) (hf : X_undoTo_w2 NF k2 ob i1 i2 = some res) : Runs C B43 0 0 2 [vr a, vi i1, vi i2, vn, vn] [] (top, (a, 17, ob) :: H) (Ans none (top, (a, 17, res) :: H)) := by
  delta X_undoTo_w2 at hf
  refine Runs.iloadN d43_2 rfl <| Runs.bipush d43_3 cb_12 <| ?_
  refine ite_el hf (fun hc1 hf => ?_) (fun hc1 hf => ?_)
  · refine Runs.icN d43_5 (tlt hc1).2.1 <| ?_
    refine Runs.aloadN d43_8 rfl <| Runs.getI d43_9 w143 fS_15 <| Runs.iloadN d43_12 rfl <| ?_
    refine ite_el hf (fun hc2 hf => ?_) (fun hc2 hf => ?_)
    · refine Runs.icN d43_13 (tlt hc2).2.2.2 <| ?_
      refine Runs.aloadN d43_16 rfl <| Runs.getI d43_17 w143 fS_15 <| ?_
      refine ite_el hf (fun hc3 hf => ?_) (fun hc3 hf => ?_)
      · refine Runs.ifN d43_20 (tlt hc3).2.2.2 <| ?_
        refine Runs.aloadN d43_23 rfl <| Runs.dup d43_24 rfl <| Runs.getI d43_25 w143 fS_15 <| Runs.iconst d43_28 ci_1 <| Runs.isub d43_29 <| Runs.putI d43_30 w143 fS_15 (Or.inl w144) <| Runs.aloadN d43_33 rfl <| Runs.getA d43_34 fA_13 w37 (by decide) <| Runs.aloadN d43_37 rfl <| Runs.getI d43_38 w143 fS_15 <| ?_
        refine chk_el hf fun hi4 hf => ?_
        refine Runs.ialoadA d43_41 fA_13 (by decide) hi4 <| Runs.istoreN (P' := [vr a, vi i1, vi i2, vi (gA ob 13 ((gI ob 15) - (1 : Int32))), vn]) d43_42 (by decide) rfl <| Runs.iconst d43_43 ci_1 <| Runs.iloadN d43_44 rfl <| Runs.ishl d43_45 <| Runs.istore (P' := [vr a, vi i1, vi i2, vi (gA ob 13 ((gI ob 15) - (1 : Int32))), vi ((1 : Int32) <<< ((gA ob 13 ((gI ob 15) - (1 : Int32))) &&& 31))]) d43_46 (by decide) rfl <| Runs.aloadN d43_48 rfl <| Runs.dup d43_49 rfl <| Runs.getI d43_50 w139 fS_13 <| Runs.iload d43_53 rfl <| Runs.iconst d43_55 ci_m1 <| Runs.ixor d43_56 <| ?_
        refine Runs.iand d43_57 <| Runs.putI d43_58 w139 fS_13 (Or.inl w140) <| Runs.aloadN d43_61 rfl <| Runs.dup d43_62 rfl <| Runs.getI d43_63 w141 fS_14 <| Runs.iload d43_66 rfl <| Runs.iconst d43_68 ci_m1 <| Runs.ixor d43_69 <| Runs.iand d43_70 <| Runs.putI d43_71 w141 fS_14 (Or.inl w142) <| Runs.iinc (P' := [vr a, vi i1, vi (i2 + (1 : Int32)), vi (gA ob 13 ((gI ob 15) - (1 : Int32))), vi ((1 : Int32) <<< ((gA ob 13 ((gI ob 15) - (1 : Int32))) &&& 31))]) d43_74 ci_1 rfl (by decide) rfl <| Runs.goto (pc' := 2) d43_77 (by decide) <| ?_
        exact Runs.forget [true, true, true, false, false] rfl <| hk2 (sI (sI (sI ob 15 ((gI ob 15) - (1 : Int32))) 13 ((gI ob 13) &&& (((1 : Int32) <<< ((gA ob 13 ((gI ob 15) - (1 : Int32))) &&& 31)) ^^^ (-1 : Int32)))) 14 ((gI ob 14) &&& (((1 : Int32) <<< ((gA ob 13 ((gI ob 15) - (1 : Int32))) &&& 31)) ^^^ (-1 : Int32)))) i1 (i2 + (1 : Int32)) hf
      · refine Runs.ifY (pc' := 80) d43_20 (flt hc3).2.2.2 (by decide) <| ?_
        obtain rfl := Option.some.inj hf
        exact Runs.retV d43_80 rfl ⟨by decide, by decide⟩ ⟨rfl, rfl⟩
    · refine Runs.icY (pc' := 80) d43_13 (flt hc2).2.2.2 (by decide) <| ?_
      obtain rfl := Option.some.inj hf
      exact Runs.retV d43_80 rfl ⟨by decide, by decide⟩ ⟨rfl, rfl⟩
  · refine Runs.icY (pc' := 80) d43_5 (flt hc1).2.1 (by decide) <| ?_
    obtain rfl := Option.some.inj hf
    exact Runs.retV d43_80 rfl ⟨by decide, by decide⟩ ⟨rfl, rfl⟩
theorem X_undoTo_l2_p {C : Ctx} {top : Nat} {a : Nat} {H : List (Nat × Nat × Rec)} {res : Rec} {NF : Nat} (n : Nat) (ob : Rec) (i1 : Int32) (i2 : Int32) (hf : X_undoTo_l2 NF n ob i1 i2 = some res) : Runs C B43 0 0 2 [vr a, vi i1, vi i2, vn, vn] [] (top, (a, 17, ob) :: H) (Ans none (top, (a, 17, res) :: H)) := by
  induction n generalizing ob i1 i2 with
  | zero => cases (show (none : Option (Rec)) = some res from hf)
  | succ n ih => exact X_undoTo_w2_p (X_undoTo_l2 NF n) (fun ob i1 i2 h => ih _ _ _ h) ob i1 i2 hf
def X_undoTo (NF : Nat) (ob : Rec) (i1 : Int32) : Option (Rec) :=
  X_undoTo_l2 NF NF ob i1 (0 : Int32)
set_option maxRecDepth 65536 in
set_option maxHeartbeats 4000000 in
theorem X_undoTo_p {C : Ctx} {top : Nat} {a : Nat} {H : List (Nat × Nat × Rec)} {res : Rec} {NF : Nat} (ob : Rec) (i1 : Int32) (hf : X_undoTo NF ob i1 = some res) : Runs C B43 0 0 0 [vr a, vi i1, vn, vn, vn] [] (top, (a, 17, ob) :: H) (Ans none (top, (a, 17, res) :: H)) := by
  delta X_undoTo at hf
  exact Runs.iconst d43_0 ci_0 <| Runs.istoreN (P' := [vr a, vi i1, vi (0 : Int32), vn, vn]) d43_1 (by decide) rfl <| X_undoTo_l2_p NF ob i1 (0 : Int32) hf
theorem X_undoTo_pay {C : Ctx} {top : Nat} {a : Nat} {H : List (Nat × Nat × Rec)} {res : Rec} {NF : Nat} {ob : Rec} {i1 : Int32} (hf : X_undoTo NF ob i1 = some res) : Pays C B43 [.ref a, .int i1] (top, (a, 17, ob) :: H) (Ans none (top, (a, 17, res) :: H)) :=
  Pays.of pnK (Nat.le_of_ble_eq_true rfl) (P := [vr a, vi i1, vn, vn, vn]) 3 rfl (X_undoTo_p ob i1 hf)
def X_backtrack_w2 (NF : Nat) (k2 : Rec → Int32 → Option (Int32 × Rec)) (ob : Rec) (i1 : Int32) : Option (Int32 × Rec) :=
  if i1 < (14 : Int32) then
    if (0 : Int32) < (gI ob 16) then
      if (13 : Int32) < (gI ob 16) then
        some ((0 : Int32), ob)
      else
        chk (13 : Int32) ((gI ob 16) - (1 : Int32)) <|
        (X_undoTo NF ob (gA ob 15 ((gI ob 16) - (1 : Int32)))).bind fun q5 =>
        chk (13 : Int32) ((gI ob 16) - (1 : Int32)) <|
        if (gA q5 16 ((gI ob 16) - (1 : Int32))) = (0 : Int32) then
          chk (13 : Int32) ((gI ob 16) - (1 : Int32)) <|
          chk (13 : Int32) ((gI ob 16) - (1 : Int32)) <|
          (X_assign (sA q5 16 ((gI ob 16) - (1 : Int32)) (1 : Int32)) (gA q5 14 ((gI ob 16) - (1 : Int32))) (1 : Int32)).bind fun q11 =>
          some ((1 : Int32), q11)
        else
          k2 (sI q5 16 ((gI q5 16) - (1 : Int32))) (i1 + (1 : Int32))
    else
      some ((0 : Int32), ob)
  else
    some ((0 : Int32), ob)
def X_backtrack_l2 (NF : Nat) : Nat → Rec → Int32 → Option (Int32 × Rec)
  | 0, _, _ => none
  | n + 1, ob, i1 => X_backtrack_w2 NF (X_backtrack_l2 NF n) ob i1
set_option maxRecDepth 65536 in
set_option maxHeartbeats 4000000 in
theorem X_backtrack_w2_p {C : Ctx} {top : Nat} {a : Nat} {H : List (Nat × Nat × Rec)} {res : Int32 × Rec} {NF : Nat} (k2 : Rec → Int32 → Option (Int32 × Rec)) (hk2 : ∀ (ob : Rec) (i1 : Int32), k2 ob i1 = some res → Runs C B42 0 0 2 [vr a, vi i1, vn] [] (top, (a, 17, ob) :: H) (Ans (some (.int res.1)) (top, (a, 17, res.2) :: H))) (ob : Rec) (i1 : Int32) (hf : X_backtrack_w2 NF k2 ob i1 = some res) : Runs C B42 0 0 2 [vr a, vi i1, vn] [] (top, (a, 17, ob) :: H) (Ans (some (.int res.1)) (top, (a, 17, res.2) :: H)) := by
  delta X_backtrack_w2 at hf
  refine Runs.iloadN d42_2 rfl <| Runs.bipush d42_3 cb_14 <| ?_
  refine ite_el hf (fun hc1 hf => ?_) (fun hc1 hf => ?_)
  · refine Runs.icN d42_5 (tlt hc1).2.1 <| ?_
    refine Runs.aloadN d42_8 rfl <| Runs.getI d42_9 w145 fS_16 <| ?_
    refine ite_el hf (fun hc2 hf => ?_) (fun hc2 hf => ?_)
    · refine Runs.ifN d42_12 (tlt hc2).2.2.2 <| ?_
      refine Runs.aloadN d42_15 rfl <| Runs.getI d42_16 w145 fS_16 <| Runs.bipush d42_19 cb_13 <| ?_
      refine ite_el hf (fun hc3 hf => ?_) (fun hc3 hf => ?_)
      · refine Runs.icN d42_21 (tlt hc3).2.2.2 <| ?_
        obtain rfl := Option.some.inj hf
        exact Runs.iconst d42_24 ci_0 <| Runs.retZ (y := (0 : Int32)) d42_25 rfl ⟨by decide, by decide⟩ rfl ⟨rfl, rfl⟩
      · refine Runs.icY (pc' := 26) d42_21 (flt hc3).2.2.2 (by decide) <| ?_
        refine Runs.aloadN d42_26 rfl <| Runs.getI d42_27 w145 fS_16 <| Runs.iconst d42_30 ci_1 <| Runs.isub d42_31 <| Runs.istoreN (P' := [vr a, vi i1, vi ((gI ob 16) - (1 : Int32))]) d42_32 (by decide) rfl <| Runs.aloadN d42_33 rfl <| Runs.aloadN d42_34 rfl <| Runs.getA d42_35 fA_15 w41 (by decide) <| Runs.iloadN d42_38 rfl <| ?_
        refine chk_el hf fun hi4 hf => ?_
        refine Runs.ialoadA d42_39 fA_15 (by decide) hi4 <| ?_
        refine bind_el hf fun q5 hg6 hf => ?_
        refine Runs.callP (N := B43) (W := 0) (as := [.int (gA ob 15 ((gI ob 16) - (1 : Int32)))]) (S' := []) d42_40 w255 w256 w257 rfl cw43 ar43 rk42_43_0 (by decide) rfl rfl (X_undoTo_pay hg6) <| ans0 <| Runs.aloadN d42_43 rfl <| Runs.getA d42_44 fA_16 w43 (by decide) <| Runs.iloadN d42_47 rfl <| ?_
        refine chk_el hf fun hi7 hf => ?_
        refine Runs.baloadA d42_48 fA_16 (by decide) hi7 <| ?_
        refine ite_el hf (fun hc8 hf => ?_) (fun hc8 hf => ?_)
        · refine Runs.ifN d42_49 (teq hc8).2 <| ?_
          refine Runs.aloadN d42_52 rfl <| Runs.getA d42_53 fA_16 w43 (by decide) <| Runs.iloadN d42_56 rfl <| Runs.iconst d42_57 ci_1 <| ?_
          refine chk_el hf fun hi9 hf => ?_
          refine Runs.bastoreA (y := (1 : Int32)) d42_58 fA_16 (by decide) hi9 rfl <| Runs.aloadN d42_59 rfl <| Runs.aloadN d42_60 rfl <| Runs.getA d42_61 fA_14 w39 (by decide) <| Runs.iloadN d42_64 rfl <| ?_
          refine chk_el hf fun hi10 hf => ?_
          refine Runs.ialoadA d42_65 fA_14 (by decide) hi10 <| Runs.iconst d42_66 ci_1 <| ?_
          refine bind_el hf fun q11 hg12 hf => ?_
          obtain rfl := Option.some.inj hf
          exact Runs.callP (N := B27) (W := 0) (as := [.int (gA q5 14 ((gI ob 16) - (1 : Int32))), .int (1 : Int32)]) (S' := []) d42_67 w185 w186 w187 rfl cw27 ar27 rk42_27_0 (by decide) rfl rfl (X_assign_pay hg12) <| ans0 <| Runs.iconst d42_70 ci_1 <| Runs.retZ (y := (1 : Int32)) d42_71 rfl ⟨by decide, by decide⟩ rfl ⟨rfl, rfl⟩
        · refine Runs.ifY (pc' := 72) d42_49 (feq hc8).2 (by decide) <| ?_
          exact Runs.aloadN d42_72 rfl <| Runs.dup d42_73 rfl <| Runs.getI d42_74 w145 fS_16 <| Runs.iconst d42_77 ci_1 <| Runs.isub d42_78 <| Runs.putI d42_79 w145 fS_16 (Or.inl w146) <| Runs.iinc (P' := [vr a, vi (i1 + (1 : Int32)), vi ((gI ob 16) - (1 : Int32))]) d42_82 ci_1 rfl (by decide) rfl <| Runs.goto (pc' := 2) d42_85 (by decide) <| Runs.forget [true, true, false] rfl <| hk2 (sI q5 16 ((gI q5 16) - (1 : Int32))) (i1 + (1 : Int32)) hf
    · refine Runs.ifY (pc' := 24) d42_12 (flt hc2).2.2.2 (by decide) <| ?_
      obtain rfl := Option.some.inj hf
      exact Runs.iconst d42_24 ci_0 <| Runs.retZ (y := (0 : Int32)) d42_25 rfl ⟨by decide, by decide⟩ rfl ⟨rfl, rfl⟩
  · refine Runs.icY (pc' := 88) d42_5 (flt hc1).2.1 (by decide) <| ?_
    obtain rfl := Option.some.inj hf
    exact Runs.iconst d42_88 ci_0 <| Runs.retZ (y := (0 : Int32)) d42_89 rfl ⟨by decide, by decide⟩ rfl ⟨rfl, rfl⟩
theorem X_backtrack_l2_p {C : Ctx} {top : Nat} {a : Nat} {H : List (Nat × Nat × Rec)} {res : Int32 × Rec} {NF : Nat} (n : Nat) (ob : Rec) (i1 : Int32) (hf : X_backtrack_l2 NF n ob i1 = some res) : Runs C B42 0 0 2 [vr a, vi i1, vn] [] (top, (a, 17, ob) :: H) (Ans (some (.int res.1)) (top, (a, 17, res.2) :: H)) := by
  induction n generalizing ob i1 with
  | zero => cases (show (none : Option (Int32 × Rec)) = some res from hf)
  | succ n ih => exact X_backtrack_w2_p (X_backtrack_l2 NF n) (fun ob i1 h => ih _ _ h) ob i1 hf
def X_backtrack (NF : Nat) (ob : Rec) : Option (Int32 × Rec) :=
  X_backtrack_l2 NF NF ob (0 : Int32)
set_option maxRecDepth 65536 in
set_option maxHeartbeats 4000000 in
theorem X_backtrack_p {C : Ctx} {top : Nat} {a : Nat} {H : List (Nat × Nat × Rec)} {res : Int32 × Rec} {NF : Nat} (ob : Rec) (hf : X_backtrack NF ob = some res) : Runs C B42 0 0 0 [vr a, vn, vn] [] (top, (a, 17, ob) :: H) (Ans (some (.int res.1)) (top, (a, 17, res.2) :: H)) := by
  delta X_backtrack at hf
  exact Runs.iconst d42_0 ci_0 <| Runs.istoreN (P' := [vr a, vi (0 : Int32), vn]) d42_1 (by decide) rfl <| X_backtrack_l2_p NF ob (0 : Int32) hf
theorem X_backtrack_pay {C : Ctx} {top : Nat} {a : Nat} {H : List (Nat × Nat × Rec)} {res : Int32 × Rec} {NF : Nat} {ob : Rec} (hf : X_backtrack NF ob = some res) : Pays C B42 [.ref a] (top, (a, 17, ob) :: H) (Ans (some (.int res.1)) (top, (a, 17, res.2) :: H)) :=
  Pays.of pnK (Nat.le_of_ble_eq_true rfl) (P := [vr a, vn, vn]) 2 rfl (X_backtrack_p ob hf)
def X_clauseHolds (ob : Rec) (i1 : Int32) (i2 : Int32) : Option (Int32) :=
  if i1 < (0 : Int32) then
    some (1 : Int32)
  else
    if i1 < (24 : Int32) then
      chk (24 : Int32) i1 <|
      chk (24 : Int32) i1 <|
      if ((i2 &&& (gA ob 2 i1)) ||| ((i2 ^^^ (-1 : Int32)) &&& (gA ob 3 i1))) = (0 : Int32) then
        some (0 : Int32)
      else
        some (1 : Int32)
    else
      some (1 : Int32)
set_option maxRecDepth 65536 in
set_option maxHeartbeats 4000000 in
theorem X_clauseHolds_p {C : Ctx} {top : Nat} {a : Nat} {H : List (Nat × Nat × Rec)} {ob : Rec} {res : Int32} (i1 : Int32) (i2 : Int32) (hf : X_clauseHolds ob i1 i2 = some res) : Runs C B30 0 0 0 [vr a, vi i1, vi i2, vn] [] (top, (a, 17, ob) :: H) (Ans (some (.int res)) (top, (a, 17, ob) :: H)) := by
  delta X_clauseHolds at hf
  refine Runs.iloadN d30_0 rfl <| ?_
  refine ite_el hf (fun hc1 hf => ?_) (fun hc1 hf => ?_)
  · refine Runs.ifY (pc' := 10) d30_1 (tlt hc1).1 (by decide) <| ?_
    obtain rfl := Option.some.inj hf
    exact Runs.iconst d30_10 ci_1 <| Runs.retZ (y := (1 : Int32)) d30_11 rfl ⟨by decide, by decide⟩ rfl ⟨rfl, rfl⟩
  · refine Runs.ifN d30_1 (flt hc1).1 <| ?_
    refine Runs.iloadN d30_4 rfl <| Runs.bipush d30_5 cb_24 <| ?_
    refine ite_el hf (fun hc2 hf => ?_) (fun hc2 hf => ?_)
    · refine Runs.icY (pc' := 12) d30_7 (tlt hc2).1 (by decide) <| ?_
      refine Runs.iloadN d30_12 rfl <| Runs.aloadN d30_13 rfl <| Runs.getA d30_14 fA_2 w15 (by decide) <| Runs.iloadN d30_17 rfl <| ?_
      refine chk_el hf fun hi3 hf => ?_
      refine Runs.ialoadA d30_18 fA_2 (by decide) hi3 <| Runs.iand d30_19 <| Runs.iloadN d30_20 rfl <| Runs.iconst d30_21 ci_m1 <| Runs.ixor d30_22 <| Runs.aloadN d30_23 rfl <| Runs.getA d30_24 fA_3 w17 (by decide) <| Runs.iloadN d30_27 rfl <| ?_
      refine chk_el hf fun hi4 hf => ?_
      refine Runs.ialoadA d30_28 fA_3 (by decide) hi4 <| Runs.iand d30_29 <| Runs.ior d30_30 <| Runs.istoreN (P' := [vr a, vi i1, vi i2, vi ((i2 &&& (gA ob 2 i1)) ||| ((i2 ^^^ (-1 : Int32)) &&& (gA ob 3 i1)))]) d30_31 (by decide) rfl <| Runs.iloadN d30_32 rfl <| ?_
      refine ite_el hf (fun hc5 hf => ?_) (fun hc5 hf => ?_)
      · refine Runs.ifY (pc' := 40) d30_33 (teq hc5).1 (by decide) <| ?_
        obtain rfl := Option.some.inj hf
        exact Runs.iconst d30_40 ci_0 <| Runs.retZ (y := (0 : Int32)) d30_41 rfl ⟨by decide, by decide⟩ rfl ⟨rfl, rfl⟩
      · refine Runs.ifN d30_33 (feq hc5).1 <| ?_
        obtain rfl := Option.some.inj hf
        exact Runs.iconst d30_36 ci_1 <| Runs.goto (pc' := 41) d30_37 (by decide) <| Runs.retZ (y := (1 : Int32)) d30_41 rfl ⟨by decide, by decide⟩ rfl ⟨rfl, rfl⟩
    · refine Runs.icN d30_7 (flt hc2).1 <| ?_
      obtain rfl := Option.some.inj hf
      exact Runs.iconst d30_10 ci_1 <| Runs.retZ (y := (1 : Int32)) d30_11 rfl ⟨by decide, by decide⟩ rfl ⟨rfl, rfl⟩
theorem X_clauseHolds_pay {C : Ctx} {top : Nat} {a : Nat} {H : List (Nat × Nat × Rec)} {ob : Rec} {res : Int32} {i1 : Int32} {i2 : Int32} (hf : X_clauseHolds ob i1 i2 = some res) : Pays C B30 [.ref a, .int i1, .int i2] (top, (a, 17, ob) :: H) (Ans (some (.int res)) (top, (a, 17, ob) :: H)) :=
  Pays.of pnK (Nat.le_of_ble_eq_true rfl) (P := [vr a, vi i1, vi i2, vn]) 1 rfl (X_clauseHolds_p i1 i2 hf)
def X_xorHolds (ob : Rec) (i1 : Int32) (i2 : Int32) : Option (Int32) :=
  if i1 < (0 : Int32) then
    some (1 : Int32)
  else
    if i1 < (16 : Int32) then
      chk (16 : Int32) i1 <|
      (X_parity ob (i2 &&& (gA ob 4 i1))).bind fun r4 =>
      chk (16 : Int32) i1 <|
      if r4 = (gA ob 5 i1) then
        some (1 : Int32)
      else
        some (0 : Int32)
    else
      some (1 : Int32)
set_option maxRecDepth 65536 in
set_option maxHeartbeats 4000000 in
theorem X_xorHolds_p {C : Ctx} {top : Nat} {a : Nat} {H : List (Nat × Nat × Rec)} {ob : Rec} {res : Int32} (i1 : Int32) (i2 : Int32) (hf : X_xorHolds ob i1 i2 = some res) : Runs C B31 0 0 0 [vr a, vi i1, vi i2, vn] [] (top, (a, 17, ob) :: H) (Ans (some (.int res)) (top, (a, 17, ob) :: H)) := by
  delta X_xorHolds at hf
  refine Runs.iloadN d31_0 rfl <| ?_
  refine ite_el hf (fun hc1 hf => ?_) (fun hc1 hf => ?_)
  · refine Runs.ifY (pc' := 10) d31_1 (tlt hc1).1 (by decide) <| ?_
    obtain rfl := Option.some.inj hf
    exact Runs.iconst d31_10 ci_1 <| Runs.retZ (y := (1 : Int32)) d31_11 rfl ⟨by decide, by decide⟩ rfl ⟨rfl, rfl⟩
  · refine Runs.ifN d31_1 (flt hc1).1 <| ?_
    refine Runs.iloadN d31_4 rfl <| Runs.bipush d31_5 cb_16 <| ?_
    refine ite_el hf (fun hc2 hf => ?_) (fun hc2 hf => ?_)
    · refine Runs.icY (pc' := 12) d31_7 (tlt hc2).1 (by decide) <| ?_
      refine Runs.aloadN d31_12 rfl <| Runs.iloadN d31_13 rfl <| Runs.aloadN d31_14 rfl <| Runs.getA d31_15 fA_4 w19 (by decide) <| Runs.iloadN d31_18 rfl <| ?_
      refine chk_el hf fun hi3 hf => ?_
      refine Runs.ialoadA d31_19 fA_4 (by decide) hi3 <| Runs.iand d31_20 <| ?_
      refine bind_el hf fun r4 hg5 hf => ?_
      refine Runs.callP (N := B24) (W := 0) (as := [.int (i2 &&& (gA ob 4 i1))]) (S' := []) d31_21 w173 w174 w175 rfl cw24 ar24 rk31_24_0 (by decide) rfl rfl (X_parity_pay hg5) <| ans1 <| Runs.istoreN (P' := [vr a, vi i1, vi i2, vi r4]) d31_24 (by decide) rfl <| Runs.iloadN d31_25 rfl <| Runs.aloadN d31_26 rfl <| Runs.getA d31_27 fA_5 w21 (by decide) <| Runs.iloadN d31_30 rfl <| ?_
      refine chk_el hf fun hi6 hf => ?_
      refine Runs.ialoadA d31_31 fA_5 (by decide) hi6 <| ?_
      refine ite_el hf (fun hc7 hf => ?_) (fun hc7 hf => ?_)
      · refine Runs.icN d31_32 (teq hc7).2 <| ?_
        obtain rfl := Option.some.inj hf
        exact Runs.iconst d31_35 ci_1 <| Runs.goto (pc' := 40) d31_36 (by decide) <| Runs.retZ (y := (1 : Int32)) d31_40 rfl ⟨by decide, by decide⟩ rfl ⟨rfl, rfl⟩
      · refine Runs.icY (pc' := 39) d31_32 (feq hc7).2 (by decide) <| ?_
        obtain rfl := Option.some.inj hf
        exact Runs.iconst d31_39 ci_0 <| Runs.retZ (y := (0 : Int32)) d31_40 rfl ⟨by decide, by decide⟩ rfl ⟨rfl, rfl⟩
    · refine Runs.icN d31_7 (flt hc2).1 <| ?_
      obtain rfl := Option.some.inj hf
      exact Runs.iconst d31_10 ci_1 <| Runs.retZ (y := (1 : Int32)) d31_11 rfl ⟨by decide, by decide⟩ rfl ⟨rfl, rfl⟩
theorem X_xorHolds_pay {C : Ctx} {top : Nat} {a : Nat} {H : List (Nat × Nat × Rec)} {ob : Rec} {res : Int32} {i1 : Int32} {i2 : Int32} (hf : X_xorHolds ob i1 i2 = some res) : Pays C B31 [.ref a, .int i1, .int i2] (top, (a, 17, ob) :: H) (Ans (some (.int res)) (top, (a, 17, ob) :: H)) :=
  Pays.of pnK (Nat.le_of_ble_eq_true rfl) (P := [vr a, vi i1, vi i2, vn]) 1 rfl (X_xorHolds_p i1 i2 hf)
def X_violations_w50 (NF : Nat) (ob : Rec) (k50 : Int32 → Int32 → Int32 → Option (Int32)) (i2 : Int32) (i3 : Int32) (i4 : Int32) : Option (Int32) :=
  if i4 < (gI ob 6) then
    if i4 < (16 : Int32) then
      (X_xorHolds ob i4 i2).bind fun r8 =>
      if r8 = (0 : Int32) then
        k50 i2 (i3 + (1 : Int32)) (i4 + (1 : Int32))
      else
        k50 i2 i3 (i4 + (1 : Int32))
    else
      some i3
  else
    some i3
def X_violations_l50 (NF : Nat) (ob : Rec) : Nat → Int32 → Int32 → Int32 → Option (Int32)
  | 0, _, _, _ => none
  | n + 1, i2, i3, i4 => X_violations_w50 NF ob (X_violations_l50 NF ob n) i2 i3 i4
set_option maxRecDepth 65536 in
set_option maxHeartbeats 4000000 in
theorem X_violations_w50_p {C : Ctx} {top : Nat} {a : Nat} {H : List (Nat × Nat × Rec)} {ob : Rec} {res : Int32} {NF : Nat} (k50 : Int32 → Int32 → Int32 → Option (Int32)) (hk50 : ∀ (i2 : Int32) (i3 : Int32) (i4 : Int32), k50 i2 i3 i4 = some res → Runs C B29 0 0 50 [vr a, vn, vi i2, vi i3, vi i4] [] (top, (a, 17, ob) :: H) (Ans (some (.int res)) (top, (a, 17, ob) :: H))) (i2 : Int32) (i3 : Int32) (i4 : Int32) (hf : X_violations_w50 NF ob k50 i2 i3 i4 = some res) : Runs C B29 0 0 50 [vr a, vn, vi i2, vi i3, vi i4] [] (top, (a, 17, ob) :: H) (Ans (some (.int res)) (top, (a, 17, ob) :: H)) := by
  delta X_violations_w50 at hf
  refine Runs.iload d29_50 rfl <| Runs.aloadN d29_52 rfl <| Runs.getI d29_53 w57 fS_6 <| ?_
  refine ite_el hf (fun hc6 hf => ?_) (fun hc6 hf => ?_)
  · refine Runs.icN d29_56 (tlt hc6).2.1 <| ?_
    refine Runs.iload d29_59 rfl <| Runs.bipush d29_61 cb_16 <| ?_
    refine ite_el hf (fun hc7 hf => ?_) (fun hc7 hf => ?_)
    · refine Runs.icN d29_63 (tlt hc7).2.1 <| ?_
      refine Runs.aloadN d29_66 rfl <| Runs.iload d29_67 rfl <| Runs.iloadN d29_69 rfl <| ?_
      refine bind_el hf fun r8 hg9 hf => ?_
      refine Runs.callP (N := B31) (W := 0) (as := [.int i4, .int i2]) (S' := []) d29_70 w202 w203 w204 rfl cw31 ar31 rk29_31_0 (by decide) rfl rfl (X_xorHolds_pay hg9) <| ans1 <| ?_
      refine ite_el hf (fun hc10 hf => ?_) (fun hc10 hf => ?_)
      · refine Runs.ifN d29_73 (teq hc10).2 <| ?_
        exact Runs.iinc (P' := [vr a, vn, vi i2, vi (i3 + (1 : Int32)), vi i4]) d29_76 ci_1 rfl (by decide) rfl <| Runs.iinc (P' := [vr a, vn, vi i2, vi (i3 + (1 : Int32)), vi (i4 + (1 : Int32))]) d29_79 ci_1 rfl (by decide) rfl <| Runs.goto (pc' := 50) d29_82 (by decide) <| hk50 i2 (i3 + (1 : Int32)) (i4 + (1 : Int32)) hf
      · refine Runs.ifY (pc' := 79) d29_73 (feq hc10).2 (by decide) <| ?_
        exact Runs.iinc (P' := [vr a, vn, vi i2, vi i3, vi (i4 + (1 : Int32))]) d29_79 ci_1 rfl (by decide) rfl <| Runs.goto (pc' := 50) d29_82 (by decide) <| hk50 i2 i3 (i4 + (1 : Int32)) hf
    · refine Runs.icY (pc' := 85) d29_63 (flt hc7).2.1 (by decide) <| ?_
      obtain rfl := Option.some.inj hf
      exact Runs.iloadN d29_85 rfl <| Runs.retI d29_86 rfl ⟨by decide, by decide⟩ ⟨rfl, rfl⟩
  · refine Runs.icY (pc' := 85) d29_56 (flt hc6).2.1 (by decide) <| ?_
    obtain rfl := Option.some.inj hf
    exact Runs.iloadN d29_85 rfl <| Runs.retI d29_86 rfl ⟨by decide, by decide⟩ ⟨rfl, rfl⟩
theorem X_violations_l50_p {C : Ctx} {top : Nat} {a : Nat} {H : List (Nat × Nat × Rec)} {ob : Rec} {res : Int32} {NF : Nat} (n : Nat) (i2 : Int32) (i3 : Int32) (i4 : Int32) (hf : X_violations_l50 NF ob n i2 i3 i4 = some res) : Runs C B29 0 0 50 [vr a, vn, vi i2, vi i3, vi i4] [] (top, (a, 17, ob) :: H) (Ans (some (.int res)) (top, (a, 17, ob) :: H)) := by
  induction n generalizing i2 i3 i4 with
  | zero => cases (show (none : Option (Int32)) = some res from hf)
  | succ n ih => exact X_violations_w50_p (X_violations_l50 NF ob n) (fun i2 i3 i4 h => ih _ _ _ h) i2 i3 i4 hf
def X_violations_w12 (NF : Nat) (ob : Rec) (k12 : Int32 → Int32 → Int32 → Option (Int32)) (i2 : Int32) (i3 : Int32) (i4 : Int32) : Option (Int32) :=
  if i4 < (gI ob 5) then
    if i4 < (24 : Int32) then
      (X_clauseHolds ob i4 i2).bind fun r3 =>
      if r3 = (0 : Int32) then
        k12 i2 (i3 + (1 : Int32)) (i4 + (1 : Int32))
      else
        k12 i2 i3 (i4 + (1 : Int32))
    else
      X_violations_l50 NF ob NF i2 i3 (0 : Int32)
  else
    X_violations_l50 NF ob NF i2 i3 (0 : Int32)
def X_violations_l12 (NF : Nat) (ob : Rec) : Nat → Int32 → Int32 → Int32 → Option (Int32)
  | 0, _, _, _ => none
  | n + 1, i2, i3, i4 => X_violations_w12 NF ob (X_violations_l12 NF ob n) i2 i3 i4
set_option maxRecDepth 65536 in
set_option maxHeartbeats 4000000 in
theorem X_violations_w12_p {C : Ctx} {top : Nat} {a : Nat} {H : List (Nat × Nat × Rec)} {ob : Rec} {res : Int32} {NF : Nat} (k12 : Int32 → Int32 → Int32 → Option (Int32)) (hk12 : ∀ (i2 : Int32) (i3 : Int32) (i4 : Int32), k12 i2 i3 i4 = some res → Runs C B29 0 0 12 [vr a, vn, vi i2, vi i3, vi i4] [] (top, (a, 17, ob) :: H) (Ans (some (.int res)) (top, (a, 17, ob) :: H))) (i2 : Int32) (i3 : Int32) (i4 : Int32) (hf : X_violations_w12 NF ob k12 i2 i3 i4 = some res) : Runs C B29 0 0 12 [vr a, vn, vi i2, vi i3, vi i4] [] (top, (a, 17, ob) :: H) (Ans (some (.int res)) (top, (a, 17, ob) :: H)) := by
  delta X_violations_w12 at hf
  refine Runs.iload d29_12 rfl <| Runs.aloadN d29_14 rfl <| Runs.getI d29_15 w55 fS_5 <| ?_
  refine ite_el hf (fun hc1 hf => ?_) (fun hc1 hf => ?_)
  · refine Runs.icN d29_18 (tlt hc1).2.1 <| ?_
    refine Runs.iload d29_21 rfl <| Runs.bipush d29_23 cb_24 <| ?_
    refine ite_el hf (fun hc2 hf => ?_) (fun hc2 hf => ?_)
    · refine Runs.icN d29_25 (tlt hc2).2.1 <| ?_
      refine Runs.aloadN d29_28 rfl <| Runs.iload d29_29 rfl <| Runs.iloadN d29_31 rfl <| ?_
      refine bind_el hf fun r3 hg4 hf => ?_
      refine Runs.callP (N := B30) (W := 0) (as := [.int i4, .int i2]) (S' := []) d29_32 w198 w199 w200 rfl cw30 ar30 rk29_30_0 (by decide) rfl rfl (X_clauseHolds_pay hg4) <| ans1 <| ?_
      refine ite_el hf (fun hc5 hf => ?_) (fun hc5 hf => ?_)
      · refine Runs.ifN d29_35 (teq hc5).2 <| ?_
        exact Runs.iinc (P' := [vr a, vn, vi i2, vi (i3 + (1 : Int32)), vi i4]) d29_38 ci_1 rfl (by decide) rfl <| Runs.iinc (P' := [vr a, vn, vi i2, vi (i3 + (1 : Int32)), vi (i4 + (1 : Int32))]) d29_41 ci_1 rfl (by decide) rfl <| Runs.goto (pc' := 12) d29_44 (by decide) <| hk12 i2 (i3 + (1 : Int32)) (i4 + (1 : Int32)) hf
      · refine Runs.ifY (pc' := 41) d29_35 (feq hc5).2 (by decide) <| ?_
        exact Runs.iinc (P' := [vr a, vn, vi i2, vi i3, vi (i4 + (1 : Int32))]) d29_41 ci_1 rfl (by decide) rfl <| Runs.goto (pc' := 12) d29_44 (by decide) <| hk12 i2 i3 (i4 + (1 : Int32)) hf
    · refine Runs.icY (pc' := 47) d29_25 (flt hc2).2.1 (by decide) <| ?_
      exact Runs.iconst d29_47 ci_0 <| Runs.istore (P' := [vr a, vn, vi i2, vi i3, vi (0 : Int32)]) d29_48 (by decide) rfl <| X_violations_l50_p NF i2 i3 (0 : Int32) hf
  · refine Runs.icY (pc' := 47) d29_18 (flt hc1).2.1 (by decide) <| ?_
    exact Runs.iconst d29_47 ci_0 <| Runs.istore (P' := [vr a, vn, vi i2, vi i3, vi (0 : Int32)]) d29_48 (by decide) rfl <| X_violations_l50_p NF i2 i3 (0 : Int32) hf
theorem X_violations_l12_p {C : Ctx} {top : Nat} {a : Nat} {H : List (Nat × Nat × Rec)} {ob : Rec} {res : Int32} {NF : Nat} (n : Nat) (i2 : Int32) (i3 : Int32) (i4 : Int32) (hf : X_violations_l12 NF ob n i2 i3 i4 = some res) : Runs C B29 0 0 12 [vr a, vn, vi i2, vi i3, vi i4] [] (top, (a, 17, ob) :: H) (Ans (some (.int res)) (top, (a, 17, ob) :: H)) := by
  induction n generalizing i2 i3 i4 with
  | zero => cases (show (none : Option (Int32)) = some res from hf)
  | succ n ih => exact X_violations_w12_p (X_violations_l12 NF ob n) (fun i2 i3 i4 h => ih _ _ _ h) i2 i3 i4 hf
def X_violations (NF : Nat) (ob : Rec) (i1 : Int32) : Option (Int32) :=
  X_violations_l12 NF ob NF (i1 &&& (gI ob 1)) (0 : Int32) (0 : Int32)
set_option maxRecDepth 65536 in
set_option maxHeartbeats 4000000 in
theorem X_violations_p {C : Ctx} {top : Nat} {a : Nat} {H : List (Nat × Nat × Rec)} {ob : Rec} {res : Int32} {NF : Nat} (i1 : Int32) (hf : X_violations NF ob i1 = some res) : Runs C B29 0 0 0 [vr a, vi i1, vn, vn, vn] [] (top, (a, 17, ob) :: H) (Ans (some (.int res)) (top, (a, 17, ob) :: H)) := by
  delta X_violations at hf
  exact Runs.iloadN d29_0 rfl <| Runs.aloadN d29_1 rfl <| Runs.getI d29_2 w47 fS_1 <| Runs.iand d29_5 <| Runs.istoreN (P' := [vr a, vi i1, vi (i1 &&& (gI ob 1)), vn, vn]) d29_6 (by decide) rfl <| Runs.iconst d29_7 ci_0 <| Runs.istoreN (P' := [vr a, vi i1, vi (i1 &&& (gI ob 1)), vi (0 : Int32), vn]) d29_8 (by decide) rfl <| Runs.iconst d29_9 ci_0 <| Runs.istore (P' := [vr a, vi i1, vi (i1 &&& (gI ob 1)), vi (0 : Int32), vi (0 : Int32)]) d29_10 (by decide) rfl <| Runs.forget [true, false, true, true, true] rfl <| X_violations_l12_p NF (i1 &&& (gI ob 1)) (0 : Int32) (0 : Int32) hf
theorem X_violations_pay {C : Ctx} {top : Nat} {a : Nat} {H : List (Nat × Nat × Rec)} {ob : Rec} {res : Int32} {NF : Nat} {i1 : Int32} (hf : X_violations NF ob i1 = some res) : Pays C B29 [.ref a, .int i1] (top, (a, 17, ob) :: H) (Ans (some (.int res)) (top, (a, 17, ob) :: H)) :=
  Pays.of pnK (Nat.le_of_ble_eq_true rfl) (P := [vr a, vi i1, vn, vn, vn]) 3 rfl (X_violations_p i1 hf)
def X_lowestUnassigned_w2 (NF : Nat) (ob : Rec) (k2 : Int32 → Option (Int32)) (i1 : Int32) : Option (Int32) :=
  if i1 < (gI ob 0) then
    if i1 < (12 : Int32) then
      if ((((gI ob 13).toUInt32 >>> (i1 &&& 31).toUInt32).toInt32) &&& (1 : Int32)) = (0 : Int32) then
        some i1
      else
        k2 (i1 + (1 : Int32))
    else
      some (-1 : Int32)
  else
    some (-1 : Int32)
def X_lowestUnassigned_l2 (NF : Nat) (ob : Rec) : Nat → Int32 → Option (Int32)
  | 0, _ => none
  | n + 1, i1 => X_lowestUnassigned_w2 NF ob (X_lowestUnassigned_l2 NF ob n) i1
set_option maxRecDepth 65536 in
set_option maxHeartbeats 4000000 in
theorem X_lowestUnassigned_w2_p {C : Ctx} {top : Nat} {a : Nat} {H : List (Nat × Nat × Rec)} {ob : Rec} {res : Int32} {NF : Nat} (k2 : Int32 → Option (Int32)) (hk2 : ∀ (i1 : Int32), k2 i1 = some res → Runs C B26 0 0 2 [vr a, vi i1] [] (top, (a, 17, ob) :: H) (Ans (some (.int res)) (top, (a, 17, ob) :: H))) (i1 : Int32) (hf : X_lowestUnassigned_w2 NF ob k2 i1 = some res) : Runs C B26 0 0 2 [vr a, vi i1] [] (top, (a, 17, ob) :: H) (Ans (some (.int res)) (top, (a, 17, ob) :: H)) := by
  delta X_lowestUnassigned_w2 at hf
  refine Runs.iloadN d26_2 rfl <| Runs.aloadN d26_3 rfl <| Runs.getI d26_4 w45 fS_0 <| ?_
  refine ite_el hf (fun hc1 hf => ?_) (fun hc1 hf => ?_)
  · refine Runs.icN d26_7 (tlt hc1).2.1 <| ?_
    refine Runs.iloadN d26_10 rfl <| Runs.bipush d26_11 cb_12 <| ?_
    refine ite_el hf (fun hc2 hf => ?_) (fun hc2 hf => ?_)
    · refine Runs.icN d26_13 (tlt hc2).2.1 <| ?_
      refine Runs.aloadN d26_16 rfl <| Runs.getI d26_17 w139 fS_13 <| Runs.iloadN d26_20 rfl <| Runs.iushr d26_21 <| Runs.iconst d26_22 ci_1 <| Runs.iand d26_23 <| ?_
      refine ite_el hf (fun hc3 hf => ?_) (fun hc3 hf => ?_)
      · refine Runs.ifN d26_24 (teq hc3).2 <| ?_
        obtain rfl := Option.some.inj hf
        exact Runs.iloadN d26_27 rfl <| Runs.retI d26_28 rfl ⟨by decide, by decide⟩ ⟨rfl, rfl⟩
      · refine Runs.ifY (pc' := 29) d26_24 (feq hc3).2 (by decide) <| ?_
        exact Runs.iinc (P' := [vr a, vi (i1 + (1 : Int32))]) d26_29 ci_1 rfl (by decide) rfl <| Runs.goto (pc' := 2) d26_32 (by decide) <| hk2 (i1 + (1 : Int32)) hf
    · refine Runs.icY (pc' := 35) d26_13 (flt hc2).2.1 (by decide) <| ?_
      obtain rfl := Option.some.inj hf
      exact Runs.iconst d26_35 ci_m1 <| Runs.retI d26_36 rfl ⟨by decide, by decide⟩ ⟨rfl, rfl⟩
  · refine Runs.icY (pc' := 35) d26_7 (flt hc1).2.1 (by decide) <| ?_
    obtain rfl := Option.some.inj hf
    exact Runs.iconst d26_35 ci_m1 <| Runs.retI d26_36 rfl ⟨by decide, by decide⟩ ⟨rfl, rfl⟩
theorem X_lowestUnassigned_l2_p {C : Ctx} {top : Nat} {a : Nat} {H : List (Nat × Nat × Rec)} {ob : Rec} {res : Int32} {NF : Nat} (n : Nat) (i1 : Int32) (hf : X_lowestUnassigned_l2 NF ob n i1 = some res) : Runs C B26 0 0 2 [vr a, vi i1] [] (top, (a, 17, ob) :: H) (Ans (some (.int res)) (top, (a, 17, ob) :: H)) := by
  induction n generalizing i1 with
  | zero => cases (show (none : Option (Int32)) = some res from hf)
  | succ n ih => exact X_lowestUnassigned_w2_p (X_lowestUnassigned_l2 NF ob n) (fun i1 h => ih _ h) i1 hf
def X_lowestUnassigned (NF : Nat) (ob : Rec) : Option (Int32) :=
  X_lowestUnassigned_l2 NF ob NF (0 : Int32)
set_option maxRecDepth 65536 in
set_option maxHeartbeats 4000000 in
theorem X_lowestUnassigned_p {C : Ctx} {top : Nat} {a : Nat} {H : List (Nat × Nat × Rec)} {ob : Rec} {res : Int32} {NF : Nat} (hf : X_lowestUnassigned NF ob = some res) : Runs C B26 0 0 0 [vr a, vn] [] (top, (a, 17, ob) :: H) (Ans (some (.int res)) (top, (a, 17, ob) :: H)) := by
  delta X_lowestUnassigned at hf
  exact Runs.iconst d26_0 ci_0 <| Runs.istoreN (P' := [vr a, vi (0 : Int32)]) d26_1 (by decide) rfl <| X_lowestUnassigned_l2_p NF (0 : Int32) hf
theorem X_lowestUnassigned_pay {C : Ctx} {top : Nat} {a : Nat} {H : List (Nat × Nat × Rec)} {ob : Rec} {res : Int32} {NF : Nat} (hf : X_lowestUnassigned NF ob = some res) : Pays C B26 [.ref a] (top, (a, 17, ob) :: H) (Ans (some (.int res)) (top, (a, 17, ob) :: H)) :=
  Pays.of pnK (Nat.le_of_ble_eq_true rfl) (P := [vr a, vn]) 1 rfl (X_lowestUnassigned_p hf)
def X_decide (NF : Nat) (ob : Rec) : Option (Rec) :=
  (X_lowestUnassigned NF ob).bind fun r1 =>
  if r1 < (0 : Int32) then
    some ob
  else
    if (gI ob 16) < (0 : Int32) then
      some ob
    else
      if (gI ob 16) < (13 : Int32) then
        chk (13 : Int32) (gI ob 16) <|
        chk (13 : Int32) (gI ob 16) <|
        chk (13 : Int32) (gI ob 16) <|
        (X_assign (sI (sA (sA (sA ob 15 (gI ob 16) (gI ob 15)) 14 (gI ob 16) r1) 16 (gI ob 16) (0 : Int32)) 16 ((gI ob 16) + (1 : Int32))) r1 (0 : Int32)).bind fun q9 =>
        some q9
      else
        some ob
set_option maxRecDepth 65536 in
set_option maxHeartbeats 4000000 in
theorem X_decide_p {C : Ctx} {top : Nat} {a : Nat} {H : List (Nat × Nat × Rec)} {res : Rec} {NF : Nat} (ob : Rec) (hf : X_decide NF ob = some res) : Runs C B25 0 0 0 [vr a, vn] [] (top, (a, 17, ob) :: H) (Ans none (top, (a, 17, res) :: H)) := by
  delta X_decide at hf
  refine Runs.aloadN d25_0 rfl <| ?_
  refine bind_el hf fun r1 hg2 hf => ?_
  refine Runs.callP (N := B26) (W := 0) (as := []) (S' := []) d25_1 w181 w182 w183 rfl cw26 ar26 rk25_26_0 (by decide) rfl rfl (X_lowestUnassigned_pay hg2) <| ans1 <| Runs.istoreN (P' := [vr a, vi r1]) d25_4 (by decide) rfl <| Runs.iloadN d25_5 rfl <| ?_
  refine ite_el hf (fun hc3 hf => ?_) (fun hc3 hf => ?_)
  · refine Runs.ifY (pc' := 25) d25_6 (tlt hc3).1 (by decide) <| ?_
    obtain rfl := Option.some.inj hf
    exact Runs.retV d25_25 rfl ⟨by decide, by decide⟩ ⟨rfl, rfl⟩
  · refine Runs.ifN d25_6 (flt hc3).1 <| ?_
    refine Runs.aloadN d25_9 rfl <| Runs.getI d25_10 w145 fS_16 <| ?_
    refine ite_el hf (fun hc4 hf => ?_) (fun hc4 hf => ?_)
    · refine Runs.ifY (pc' := 25) d25_13 (tlt hc4).1 (by decide) <| ?_
      obtain rfl := Option.some.inj hf
      exact Runs.retV d25_25 rfl ⟨by decide, by decide⟩ ⟨rfl, rfl⟩
    · refine Runs.ifN d25_13 (flt hc4).1 <| ?_
      refine Runs.aloadN d25_16 rfl <| Runs.getI d25_17 w145 fS_16 <| Runs.bipush d25_20 cb_13 <| ?_
      refine ite_el hf (fun hc5 hf => ?_) (fun hc5 hf => ?_)
      · refine Runs.icY (pc' := 26) d25_22 (tlt hc5).1 (by decide) <| ?_
        refine Runs.aloadN d25_26 rfl <| Runs.getA d25_27 fA_15 w41 (by decide) <| Runs.aloadN d25_30 rfl <| Runs.getI d25_31 w145 fS_16 <| Runs.aloadN d25_34 rfl <| Runs.getI d25_35 w143 fS_15 <| ?_
        refine chk_el hf fun hi6 hf => ?_
        refine Runs.iastoreA d25_38 fA_15 (by decide) hi6 <| Runs.aloadN d25_39 rfl <| Runs.getA d25_40 fA_14 w39 (by decide) <| Runs.aloadN d25_43 rfl <| Runs.getI d25_44 w145 fS_16 <| Runs.iloadN d25_47 rfl <| ?_
        refine chk_el hf fun hi7 hf => ?_
        refine Runs.iastoreA d25_48 fA_14 (by decide) hi7 <| Runs.aloadN d25_49 rfl <| Runs.getA d25_50 fA_16 w43 (by decide) <| Runs.aloadN d25_53 rfl <| Runs.getI d25_54 w145 fS_16 <| Runs.iconst d25_57 ci_0 <| ?_
        refine chk_el hf fun hi8 hf => ?_
        refine Runs.bastoreA (y := (0 : Int32)) d25_58 fA_16 (by decide) hi8 rfl <| Runs.aloadN d25_59 rfl <| Runs.dup d25_60 rfl <| Runs.getI d25_61 w145 fS_16 <| Runs.iconst d25_64 ci_1 <| Runs.iadd d25_65 <| Runs.putI d25_66 w145 fS_16 (Or.inl w146) <| Runs.aloadN d25_69 rfl <| Runs.iloadN d25_70 rfl <| Runs.iconst d25_71 ci_0 <| ?_
        refine bind_el hf fun q9 hg10 hf => ?_
        obtain rfl := Option.some.inj hf
        exact Runs.callP (N := B27) (W := 0) (as := [.int r1, .int (0 : Int32)]) (S' := []) d25_72 w185 w186 w187 rfl cw27 ar27 rk25_27_0 (by decide) rfl rfl (X_assign_pay hg10) <| ans0 <| Runs.retV d25_75 rfl ⟨by decide, by decide⟩ ⟨rfl, rfl⟩
      · refine Runs.icN d25_22 (flt hc5).1 <| ?_
        obtain rfl := Option.some.inj hf
        exact Runs.retV d25_25 rfl ⟨by decide, by decide⟩ ⟨rfl, rfl⟩
theorem X_decide_pay {C : Ctx} {top : Nat} {a : Nat} {H : List (Nat × Nat × Rec)} {res : Rec} {NF : Nat} {ob : Rec} (hf : X_decide NF ob = some res) : Pays C B25 [.ref a] (top, (a, 17, ob) :: H) (Ans none (top, (a, 17, res) :: H)) :=
  Pays.of pnK (Nat.le_of_ble_eq_true rfl) (P := [vr a, vn]) 1 rfl (X_decide_p ob hf)
def X_search_w29 (NF : Nat) (k29 : Rec → Int32 → Option (Int32 × Rec)) (ob : Rec) (i3 : Int32) : Option (Int32 × Rec) :=
  if i3 < (16384 : Int32) then
    bind2 (X_propagate NF ob) fun r2 q3 =>
    if r2 = (0 : Int32) then
      bind2 (X_backtrack NF q3) fun r6 q7 =>
      if r6 = (0 : Int32) then
        some ((0 : Int32), q7)
      else
        k29 q7 (i3 + (1 : Int32))
    else
      if (gI q3 13) = (gI q3 1) then
        (X_violations NF q3 (gI q3 14)).bind fun r11 =>
        if r11 = (0 : Int32) then
          some ((1 : Int32), (sI q3 17 ((gI q3 14) &&& (gI q3 1))))
        else
          bind2 (X_backtrack NF q3) fun r14 q15 =>
          if r14 = (0 : Int32) then
            some ((0 : Int32), q15)
          else
            k29 q15 (i3 + (1 : Int32))
      else
        (X_decide NF q3).bind fun q18 =>
        k29 q18 (i3 + (1 : Int32))
  else
    some ((0 : Int32), ob)
def X_search_l29 (NF : Nat) : Nat → Rec → Int32 → Option (Int32 × Rec)
  | 0, _, _ => none
  | n + 1, ob, i3 => X_search_w29 NF (X_search_l29 NF n) ob i3
set_option maxRecDepth 65536 in
set_option maxHeartbeats 4000000 in
theorem X_search_w29_p {C : Ctx} {top : Nat} {a : Nat} {H : List (Nat × Nat × Rec)} {res : Int32 × Rec} {NF : Nat} (k29 : Rec → Int32 → Option (Int32 × Rec)) (hk29 : ∀ (ob : Rec) (i3 : Int32), k29 ob i3 = some res → Runs C B10 0 0 29 [vr a, vn, vn, vi i3] [] (top, (a, 17, ob) :: H) (Ans (some (.int res.1)) (top, (a, 17, res.2) :: H))) (ob : Rec) (i3 : Int32) (hf : X_search_w29 NF k29 ob i3 = some res) : Runs C B10 0 0 29 [vr a, vn, vn, vi i3] [] (top, (a, 17, ob) :: H) (Ans (some (.int res.1)) (top, (a, 17, res.2) :: H)) := by
  delta X_search_w29 at hf
  refine Runs.iloadN d10_29 rfl <| Runs.sipush d10_30 cs_16384 <| ?_
  refine ite_el hf (fun hc1 hf => ?_) (fun hc1 hf => ?_)
  · refine Runs.icN d10_33 (tlt hc1).2.1 <| ?_
    refine Runs.aloadN d10_36 rfl <| ?_
    refine bind2_el hf fun r2 q3 hg4 hf => ?_
    refine Runs.callP (N := B18) (W := 0) (as := []) (S' := []) d10_37 w149 w150 w151 rfl cw18 ar18 rk10_18_0 (by decide) rfl rfl (X_propagate_pay hg4) <| ans1 <| ?_
    refine ite_el hf (fun hc5 hf => ?_) (fun hc5 hf => ?_)
    · refine Runs.ifN d10_40 (teq hc5).2 <| ?_
      refine Runs.aloadN d10_43 rfl <| ?_
      refine bind2_el hf fun r6 q7 hg8 hf => ?_
      refine Runs.callP (N := B42) (W := 0) (as := []) (S' := []) d10_44 w251 w252 w253 rfl cw42 ar42 rk10_42_0 (by decide) rfl rfl (X_backtrack_pay hg8) <| ans1 <| ?_
      refine ite_el hf (fun hc9 hf => ?_) (fun hc9 hf => ?_)
      · refine Runs.ifN d10_47 (teq hc9).2 <| ?_
        obtain rfl := Option.some.inj hf
        exact Runs.iconst d10_50 ci_0 <| Runs.retZ (y := (0 : Int32)) d10_51 rfl ⟨by decide, by decide⟩ rfl ⟨rfl, rfl⟩
      · refine Runs.ifY (pc' := 102) d10_47 (feq hc9).2 (by decide) <| ?_
        exact Runs.iinc (P' := [vr a, vn, vn, vi (i3 + (1 : Int32))]) d10_102 ci_1 rfl (by decide) rfl <| Runs.goto (pc' := 29) d10_105 (by decide) <| hk29 q7 (i3 + (1 : Int32)) hf
    · refine Runs.ifY (pc' := 52) d10_40 (feq hc5).2 (by decide) <| ?_
      refine Runs.aloadN d10_52 rfl <| Runs.getI d10_53 w139 fS_13 <| Runs.aloadN d10_56 rfl <| Runs.getI d10_57 w47 fS_1 <| ?_
      refine ite_el hf (fun hc10 hf => ?_) (fun hc10 hf => ?_)
      · refine Runs.icN d10_60 (teq hc10).2 <| ?_
        refine Runs.aloadN d10_63 rfl <| Runs.aloadN d10_64 rfl <| Runs.getI d10_65 w141 fS_14 <| ?_
        refine bind_el hf fun r11 hg12 hf => ?_
        refine Runs.callV (N := B29) (W := 0) (as := [.int (gI q3 14)]) (S' := []) d10_68 w193 w194 w195 w196 cw29 ar29 rk10_29_0 (by decide) rfl rfl (X_violations_pay hg12) <| ans1 <| ?_
        refine ite_el hf (fun hc13 hf => ?_) (fun hc13 hf => ?_)
        · refine Runs.ifN d10_71 (teq hc13).2 <| ?_
          obtain rfl := Option.some.inj hf
          exact Runs.aloadN d10_74 rfl <| Runs.aloadN d10_75 rfl <| Runs.getI d10_76 w141 fS_14 <| Runs.aloadN d10_79 rfl <| Runs.getI d10_80 w47 fS_1 <| Runs.iand d10_83 <| Runs.putI d10_84 w147 fS_17 (Or.inl w148) <| Runs.iconst d10_87 ci_1 <| Runs.retZ (y := (1 : Int32)) d10_88 rfl ⟨by decide, by decide⟩ rfl ⟨rfl, rfl⟩
        · refine Runs.ifY (pc' := 89) d10_71 (feq hc13).2 (by decide) <| ?_
          refine Runs.aloadN d10_89 rfl <| ?_
          refine bind2_el hf fun r14 q15 hg16 hf => ?_
          refine Runs.callP (N := B42) (W := 0) (as := []) (S' := []) d10_90 w251 w252 w253 rfl cw42 ar42 rk10_42_0 (by decide) rfl rfl (X_backtrack_pay hg16) <| ans1 <| ?_
          refine ite_el hf (fun hc17 hf => ?_) (fun hc17 hf => ?_)
          · refine Runs.ifN d10_93 (teq hc17).2 <| ?_
            obtain rfl := Option.some.inj hf
            exact Runs.iconst d10_96 ci_0 <| Runs.retZ (y := (0 : Int32)) d10_97 rfl ⟨by decide, by decide⟩ rfl ⟨rfl, rfl⟩
          · refine Runs.ifY (pc' := 102) d10_93 (feq hc17).2 (by decide) <| ?_
            exact Runs.iinc (P' := [vr a, vn, vn, vi (i3 + (1 : Int32))]) d10_102 ci_1 rfl (by decide) rfl <| Runs.goto (pc' := 29) d10_105 (by decide) <| hk29 q15 (i3 + (1 : Int32)) hf
      · refine Runs.icY (pc' := 98) d10_60 (feq hc10).2 (by decide) <| ?_
        refine Runs.aloadN d10_98 rfl <| ?_
        refine bind_el hf fun q18 hg19 hf => ?_
        exact Runs.callP (N := B25) (W := 0) (as := []) (S' := []) d10_99 w177 w178 w179 rfl cw25 ar25 rk10_25_0 (by decide) rfl rfl (X_decide_pay hg19) <| ans0 <| Runs.iinc (P' := [vr a, vn, vn, vi (i3 + (1 : Int32))]) d10_102 ci_1 rfl (by decide) rfl <| Runs.goto (pc' := 29) d10_105 (by decide) <| hk29 q18 (i3 + (1 : Int32)) hf
  · refine Runs.icY (pc' := 108) d10_33 (flt hc1).2.1 (by decide) <| ?_
    obtain rfl := Option.some.inj hf
    exact Runs.iconst d10_108 ci_0 <| Runs.retZ (y := (0 : Int32)) d10_109 rfl ⟨by decide, by decide⟩ rfl ⟨rfl, rfl⟩
theorem X_search_l29_p {C : Ctx} {top : Nat} {a : Nat} {H : List (Nat × Nat × Rec)} {res : Int32 × Rec} {NF : Nat} (n : Nat) (ob : Rec) (i3 : Int32) (hf : X_search_l29 NF n ob i3 = some res) : Runs C B10 0 0 29 [vr a, vn, vn, vi i3] [] (top, (a, 17, ob) :: H) (Ans (some (.int res.1)) (top, (a, 17, res.2) :: H)) := by
  induction n generalizing ob i3 with
  | zero => cases (show (none : Option (Int32 × Rec)) = some res from hf)
  | succ n ih => exact X_search_w29_p (X_search_l29 NF n) (fun ob i3 h => ih _ _ h) ob i3 hf
def X_search (NF : Nat) (ob : Rec) (i1 : Int32) (i2 : Int32) : Option (Int32 × Rec) :=
  (X_ensureEchelon NF ob).bind fun q20 =>
  if (gI q20 9) = (0 : Int32) then
    some ((0 : Int32), q20)
  else
    (X_resetSearch q20).bind fun q23 =>
    if i1 < (0 : Int32) then
      X_search_l29 NF NF q23 (0 : Int32)
    else
      (X_assign q23 i1 i2).bind fun q26 =>
      X_search_l29 NF NF q26 (0 : Int32)
set_option maxRecDepth 65536 in
set_option maxHeartbeats 4000000 in
theorem X_search_p {C : Ctx} {top : Nat} {a : Nat} {H : List (Nat × Nat × Rec)} {res : Int32 × Rec} {NF : Nat} (ob : Rec) (i1 : Int32) (i2 : Int32) (hf : X_search NF ob i1 i2 = some res) : Runs C B10 0 0 0 [vr a, vi i1, vi i2, vn] [] (top, (a, 17, ob) :: H) (Ans (some (.int res.1)) (top, (a, 17, res.2) :: H)) := by
  delta X_search at hf
  refine Runs.aloadN d10_0 rfl <| ?_
  refine bind_el hf fun q20 hg21 hf => ?_
  refine Runs.callP (N := B11) (W := 0) (as := []) (S' := []) d10_1 w107 w108 w109 rfl cw11 ar11 rk10_11_0 (by decide) rfl rfl (X_ensureEchelon_pay hg21) <| ans0 <| Runs.aloadN d10_4 rfl <| Runs.getI d10_5 w63 fS_9 <| ?_
  refine ite_el hf (fun hc22 hf => ?_) (fun hc22 hf => ?_)
  · refine Runs.ifN d10_8 (teq hc22).2 <| ?_
    obtain rfl := Option.some.inj hf
    exact Runs.iconst d10_11 ci_0 <| Runs.retZ (y := (0 : Int32)) d10_12 rfl ⟨by decide, by decide⟩ rfl ⟨rfl, rfl⟩
  · refine Runs.ifY (pc' := 13) d10_8 (feq hc22).2 (by decide) <| ?_
    refine Runs.aloadN d10_13 rfl <| ?_
    refine bind_el hf fun q23 hg24 hf => ?_
    refine Runs.callP (N := B17) (W := 0) (as := []) (S' := []) d10_14 w135 w136 w137 rfl cw17 ar17 rk10_17_0 (by decide) rfl rfl (X_resetSearch_pay hg24) <| ans0 <| Runs.iloadN d10_17 rfl <| ?_
    refine ite_el hf (fun hc25 hf => ?_) (fun hc25 hf => ?_)
    · refine Runs.ifY (pc' := 27) d10_18 (tlt hc25).1 (by decide) <| ?_
      exact Runs.iconst d10_27 ci_0 <| Runs.istoreN (P' := [vr a, vi i1, vi i2, vi (0 : Int32)]) d10_28 (by decide) rfl <| Runs.forget [true, false, false, true] rfl <| X_search_l29_p NF q23 (0 : Int32) hf
    · refine Runs.ifN d10_18 (flt hc25).1 <| ?_
      refine Runs.aloadN d10_21 rfl <| Runs.iloadN d10_22 rfl <| Runs.iloadN d10_23 rfl <| ?_
      refine bind_el hf fun q26 hg27 hf => ?_
      exact Runs.callP (N := B27) (W := 0) (as := [.int i1, .int i2]) (S' := []) d10_24 w185 w186 w187 rfl cw27 ar27 rk10_27_0 (by decide) rfl rfl (X_assign_pay hg27) <| ans0 <| Runs.iconst d10_27 ci_0 <| Runs.istoreN (P' := [vr a, vi i1, vi i2, vi (0 : Int32)]) d10_28 (by decide) rfl <| Runs.forget [true, false, false, true] rfl <| X_search_l29_p NF q26 (0 : Int32) hf
theorem X_search_pay {C : Ctx} {top : Nat} {a : Nat} {H : List (Nat × Nat × Rec)} {res : Int32 × Rec} {NF : Nat} {ob : Rec} {i1 : Int32} {i2 : Int32} (hf : X_search NF ob i1 i2 = some res) : Pays C B10 [.ref a, .int i1, .int i2] (top, (a, 17, ob) :: H) (Ans (some (.int res.1)) (top, (a, 17, res.2) :: H)) :=
  Pays.of pnK (Nat.le_of_ble_eq_true rfl) (P := [vr a, vi i1, vi i2, vn]) 1 rfl (X_search_p ob i1 i2 hf)
def X_solve (NF : Nat) (ob : Rec) : Option (Int32 × Rec) :=
  if (gI ob 2) = (1 : Int32) then
    some ((gI ob 2), ob)
  else
    if (gI ob 2) = (0 : Int32) then
      some ((gI ob 2), ob)
    else
      bind2 (X_search NF ob (-1 : Int32) (0 : Int32)) fun r3 q4 =>
      if r3 = (0 : Int32) then
        some ((0 : Int32), (sI q4 2 (0 : Int32)))
      else
        some ((1 : Int32), (sI (sI q4 3 ((gI q4 17) &&& (gI q4 1))) 2 (1 : Int32)))
set_option maxRecDepth 65536 in
set_option maxHeartbeats 4000000 in
theorem X_solve_p {C : Ctx} {top : Nat} {a : Nat} {H : List (Nat × Nat × Rec)} {res : Int32 × Rec} {NF : Nat} (ob : Rec) (hf : X_solve NF ob = some res) : Runs C B9 0 0 0 [vr a] [] (top, (a, 17, ob) :: H) (Ans (some (.int res.1)) (top, (a, 17, res.2) :: H)) := by
  delta X_solve at hf
  refine Runs.aloadN d9_0 rfl <| Runs.getI d9_1 w49 fS_2 <| Runs.iconst d9_4 ci_1 <| ?_
  refine ite_el hf (fun hc1 hf => ?_) (fun hc1 hf => ?_)
  · refine Runs.icY (pc' := 15) d9_5 (teq hc1).1 (by decide) <| ?_
    obtain rfl := Option.some.inj hf
    exact Runs.aloadN d9_15 rfl <| Runs.getI d9_16 w49 fS_2 <| Runs.retI d9_19 rfl ⟨by decide, by decide⟩ ⟨rfl, rfl⟩
  · refine Runs.icN d9_5 (feq hc1).1 <| ?_
    refine Runs.aloadN d9_8 rfl <| Runs.getI d9_9 w49 fS_2 <| ?_
    refine ite_el hf (fun hc2 hf => ?_) (fun hc2 hf => ?_)
    · refine Runs.ifN d9_12 (teq hc2).2 <| ?_
      obtain rfl := Option.some.inj hf
      exact Runs.aloadN d9_15 rfl <| Runs.getI d9_16 w49 fS_2 <| Runs.retI d9_19 rfl ⟨by decide, by decide⟩ ⟨rfl, rfl⟩
    · refine Runs.ifY (pc' := 20) d9_12 (feq hc2).2 (by decide) <| ?_
      refine Runs.aloadN d9_20 rfl <| Runs.iconst d9_21 ci_m1 <| Runs.iconst d9_22 ci_0 <| ?_
      refine bind2_el hf fun r3 q4 hg5 hf => ?_
      refine Runs.callP (N := B10) (W := 0) (as := [.int (-1 : Int32), .int (0 : Int32)]) (S' := []) d9_23 w103 w104 w105 rfl cw10 ar10 rk9_10_0 (by decide) rfl rfl (X_search_pay hg5) <| ans1 <| ?_
      refine ite_el hf (fun hc6 hf => ?_) (fun hc6 hf => ?_)
      · refine Runs.ifY (pc' := 50) d9_26 (teq hc6).1 (by decide) <| ?_
        obtain rfl := Option.some.inj hf
        exact Runs.aloadN d9_50 rfl <| Runs.iconst d9_51 ci_0 <| Runs.putI d9_52 w49 fS_2 (Or.inl w50) <| Runs.aloadN d9_55 rfl <| Runs.getI d9_56 w49 fS_2 <| Runs.retI d9_59 rfl ⟨by decide, by decide⟩ ⟨rfl, rfl⟩
      · refine Runs.ifN d9_26 (feq hc6).1 <| ?_
        refine Runs.aloadN d9_29 rfl <| Runs.aloadN d9_30 rfl <| Runs.getI d9_31 w147 fS_17 <| Runs.aloadN d9_34 rfl <| Runs.getI d9_35 w47 fS_1 <| Runs.iand d9_38 <| Runs.putI d9_39 w51 fS_3 (Or.inl w52) <| Runs.aloadN d9_42 rfl <| Runs.iconst d9_43 ci_1 <| Runs.putI d9_44 w49 fS_2 (Or.inl w50) <| Runs.goto (pc' := 55) d9_47 (by decide) <| Runs.aloadN d9_55 rfl <| ?_
        obtain rfl := Option.some.inj hf
        exact Runs.getI d9_56 w49 fS_2 <| Runs.retI d9_59 rfl ⟨by decide, by decide⟩ ⟨rfl, rfl⟩
theorem X_solve_pay {C : Ctx} {top : Nat} {a : Nat} {H : List (Nat × Nat × Rec)} {res : Int32 × Rec} {NF : Nat} {ob : Rec} (hf : X_solve NF ob = some res) : Pays C B9 [.ref a] (top, (a, 17, ob) :: H) (Ans (some (.int res.1)) (top, (a, 17, res.2) :: H)) :=
  Pays.of pnK (Nat.le_of_ble_eq_true rfl) (P := [vr a]) 0 rfl (X_solve_p ob hf)
def X_status (ob : Rec) : Option (Int32) :=
  some (gI ob 2)
set_option maxRecDepth 65536 in
set_option maxHeartbeats 4000000 in
theorem X_status_p {C : Ctx} {top : Nat} {a : Nat} {H : List (Nat × Nat × Rec)} {ob : Rec} {res : Int32} (hf : X_status ob = some res) : Runs C B32 0 0 0 [vr a] [] (top, (a, 17, ob) :: H) (Ans (some (.int res)) (top, (a, 17, ob) :: H)) := by
  delta X_status at hf
  obtain rfl := Option.some.inj hf
  exact Runs.aloadN d32_0 rfl <| Runs.getI d32_1 w49 fS_2 <| Runs.retI d32_4 rfl ⟨by decide, by decide⟩ ⟨rfl, rfl⟩
theorem X_status_pay {C : Ctx} {top : Nat} {a : Nat} {H : List (Nat × Nat × Rec)} {ob : Rec} {res : Int32} (hf : X_status ob = some res) : Pays C B32 [.ref a] (top, (a, 17, ob) :: H) (Ans (some (.int res)) (top, (a, 17, ob) :: H)) :=
  Pays.of pnK (Nat.le_of_ble_eq_true rfl) (P := [vr a]) 0 rfl (X_status_p hf)
def X_modelBits (ob : Rec) : Option (Int32) :=
  if (gI ob 2) = (1 : Int32) then
    some ((gI ob 3) &&& (gI ob 1))
  else
    some (-1 : Int32)
set_option maxRecDepth 65536 in
set_option maxHeartbeats 4000000 in
theorem X_modelBits_p {C : Ctx} {top : Nat} {a : Nat} {H : List (Nat × Nat × Rec)} {ob : Rec} {res : Int32} (hf : X_modelBits ob = some res) : Runs C B33 0 0 0 [vr a] [] (top, (a, 17, ob) :: H) (Ans (some (.int res)) (top, (a, 17, ob) :: H)) := by
  delta X_modelBits at hf
  refine Runs.aloadN d33_0 rfl <| Runs.getI d33_1 w49 fS_2 <| Runs.iconst d33_4 ci_1 <| ?_
  refine ite_el hf (fun hc1 hf => ?_) (fun hc1 hf => ?_)
  · refine Runs.icY (pc' := 10) d33_5 (teq hc1).1 (by decide) <| ?_
    obtain rfl := Option.some.inj hf
    exact Runs.aloadN d33_10 rfl <| Runs.getI d33_11 w51 fS_3 <| Runs.aloadN d33_14 rfl <| Runs.getI d33_15 w47 fS_1 <| Runs.iand d33_18 <| Runs.retI d33_19 rfl ⟨by decide, by decide⟩ ⟨rfl, rfl⟩
  · refine Runs.icN d33_5 (feq hc1).1 <| ?_
    obtain rfl := Option.some.inj hf
    exact Runs.iconst d33_8 ci_m1 <| Runs.retI d33_9 rfl ⟨by decide, by decide⟩ ⟨rfl, rfl⟩
theorem X_modelBits_pay {C : Ctx} {top : Nat} {a : Nat} {H : List (Nat × Nat × Rec)} {ob : Rec} {res : Int32} (hf : X_modelBits ob = some res) : Pays C B33 [.ref a] (top, (a, 17, ob) :: H) (Ans (some (.int res)) (top, (a, 17, ob) :: H)) :=
  Pays.of pnK (Nat.le_of_ble_eq_true rfl) (P := [vr a]) 0 rfl (X_modelBits_p hf)
def X_value (ob : Rec) (i1 : Int32) : Option (Int32) :=
  if i1 < (0 : Int32) then
    some (-1 : Int32)
  else
    if i1 < (gI ob 0) then
      if (gI ob 2) = (1 : Int32) then
        some ((((gI ob 3).toUInt32 >>> (i1 &&& 31).toUInt32).toInt32) &&& (1 : Int32))
      else
        some (-1 : Int32)
    else
      some (-1 : Int32)
set_option maxRecDepth 65536 in
set_option maxHeartbeats 4000000 in
theorem X_value_p {C : Ctx} {top : Nat} {a : Nat} {H : List (Nat × Nat × Rec)} {ob : Rec} {res : Int32} (i1 : Int32) (hf : X_value ob i1 = some res) : Runs C B34 0 0 0 [vr a, vi i1] [] (top, (a, 17, ob) :: H) (Ans (some (.int res)) (top, (a, 17, ob) :: H)) := by
  delta X_value at hf
  refine Runs.iloadN d34_0 rfl <| ?_
  refine ite_el hf (fun hc1 hf => ?_) (fun hc1 hf => ?_)
  · refine Runs.ifY (pc' := 12) d34_1 (tlt hc1).1 (by decide) <| ?_
    obtain rfl := Option.some.inj hf
    exact Runs.iconst d34_12 ci_m1 <| Runs.retI d34_13 rfl ⟨by decide, by decide⟩ ⟨rfl, rfl⟩
  · refine Runs.ifN d34_1 (flt hc1).1 <| ?_
    refine Runs.iloadN d34_4 rfl <| Runs.aloadN d34_5 rfl <| Runs.getI d34_6 w45 fS_0 <| ?_
    refine ite_el hf (fun hc2 hf => ?_) (fun hc2 hf => ?_)
    · refine Runs.icY (pc' := 14) d34_9 (tlt hc2).1 (by decide) <| ?_
      refine Runs.aloadN d34_14 rfl <| Runs.getI d34_15 w49 fS_2 <| Runs.iconst d34_18 ci_1 <| ?_
      refine ite_el hf (fun hc3 hf => ?_) (fun hc3 hf => ?_)
      · refine Runs.icY (pc' := 24) d34_19 (teq hc3).1 (by decide) <| ?_
        obtain rfl := Option.some.inj hf
        exact Runs.aloadN d34_24 rfl <| Runs.getI d34_25 w51 fS_3 <| Runs.iloadN d34_28 rfl <| Runs.iushr d34_29 <| Runs.iconst d34_30 ci_1 <| Runs.iand d34_31 <| Runs.retI d34_32 rfl ⟨by decide, by decide⟩ ⟨rfl, rfl⟩
      · refine Runs.icN d34_19 (feq hc3).1 <| ?_
        obtain rfl := Option.some.inj hf
        exact Runs.iconst d34_22 ci_m1 <| Runs.retI d34_23 rfl ⟨by decide, by decide⟩ ⟨rfl, rfl⟩
    · refine Runs.icN d34_9 (flt hc2).1 <| ?_
      obtain rfl := Option.some.inj hf
      exact Runs.iconst d34_12 ci_m1 <| Runs.retI d34_13 rfl ⟨by decide, by decide⟩ ⟨rfl, rfl⟩
theorem X_value_pay {C : Ctx} {top : Nat} {a : Nat} {H : List (Nat × Nat × Rec)} {ob : Rec} {res : Int32} {i1 : Int32} (hf : X_value ob i1 = some res) : Pays C B34 [.ref a, .int i1] (top, (a, 17, ob) :: H) (Ans (some (.int res)) (top, (a, 17, ob) :: H)) :=
  Pays.of pnK (Nat.le_of_ble_eq_true rfl) (P := [vr a, vi i1]) 0 rfl (X_value_p i1 hf)
def X_echPivotMask_w4 (NF : Nat) (ob : Rec) (k4 : Int32 → Int32 → Option (Int32)) (i1 : Int32) (i2 : Int32) : Option (Int32) :=
  if i2 < (gI ob 8) then
    if i2 < (16 : Int32) then
      chk (16 : Int32) i2 <|
      k4 (i1 ||| ((1 : Int32) <<< ((gA ob 9 i2) &&& 31))) (i2 + (1 : Int32))
    else
      some (i1 &&& (gI ob 1))
  else
    some (i1 &&& (gI ob 1))
def X_echPivotMask_l4 (NF : Nat) (ob : Rec) : Nat → Int32 → Int32 → Option (Int32)
  | 0, _, _ => none
  | n + 1, i1, i2 => X_echPivotMask_w4 NF ob (X_echPivotMask_l4 NF ob n) i1 i2
set_option maxRecDepth 65536 in
set_option maxHeartbeats 4000000 in
theorem X_echPivotMask_w4_p {C : Ctx} {top : Nat} {a : Nat} {H : List (Nat × Nat × Rec)} {ob : Rec} {res : Int32} {NF : Nat} (k4 : Int32 → Int32 → Option (Int32)) (hk4 : ∀ (i1 : Int32) (i2 : Int32), k4 i1 i2 = some res → Runs C B36 0 0 4 [vr a, vi i1, vi i2] [] (top, (a, 17, ob) :: H) (Ans (some (.int res)) (top, (a, 17, ob) :: H))) (i1 : Int32) (i2 : Int32) (hf : X_echPivotMask_w4 NF ob k4 i1 i2 = some res) : Runs C B36 0 0 4 [vr a, vi i1, vi i2] [] (top, (a, 17, ob) :: H) (Ans (some (.int res)) (top, (a, 17, ob) :: H)) := by
  delta X_echPivotMask_w4 at hf
  refine Runs.iloadN d36_4 rfl <| Runs.aloadN d36_5 rfl <| Runs.getI d36_6 w65 fS_8 <| ?_
  refine ite_el hf (fun hc1 hf => ?_) (fun hc1 hf => ?_)
  · refine Runs.icN d36_9 (tlt hc1).2.1 <| ?_
    refine Runs.iloadN d36_12 rfl <| Runs.bipush d36_13 cb_16 <| ?_
    refine ite_el hf (fun hc2 hf => ?_) (fun hc2 hf => ?_)
    · refine Runs.icN d36_15 (tlt hc2).2.1 <| ?_
      refine Runs.iloadN d36_18 rfl <| Runs.iconst d36_19 ci_1 <| Runs.aloadN d36_20 rfl <| Runs.getA d36_21 fA_9 w29 (by decide) <| Runs.iloadN d36_24 rfl <| ?_
      refine chk_el hf fun hi3 hf => ?_
      exact Runs.ialoadA d36_25 fA_9 (by decide) hi3 <| Runs.ishl d36_26 <| Runs.ior d36_27 <| Runs.istoreN (P' := [vr a, vi (i1 ||| ((1 : Int32) <<< ((gA ob 9 i2) &&& 31))), vi i2]) d36_28 (by decide) rfl <| Runs.iinc (P' := [vr a, vi (i1 ||| ((1 : Int32) <<< ((gA ob 9 i2) &&& 31))), vi (i2 + (1 : Int32))]) d36_29 ci_1 rfl (by decide) rfl <| Runs.goto (pc' := 4) d36_32 (by decide) <| hk4 (i1 ||| ((1 : Int32) <<< ((gA ob 9 i2) &&& 31))) (i2 + (1 : Int32)) hf
    · refine Runs.icY (pc' := 35) d36_15 (flt hc2).2.1 (by decide) <| ?_
      obtain rfl := Option.some.inj hf
      exact Runs.iloadN d36_35 rfl <| Runs.aloadN d36_36 rfl <| Runs.getI d36_37 w47 fS_1 <| Runs.iand d36_40 <| Runs.retI d36_41 rfl ⟨by decide, by decide⟩ ⟨rfl, rfl⟩
  · refine Runs.icY (pc' := 35) d36_9 (flt hc1).2.1 (by decide) <| ?_
    obtain rfl := Option.some.inj hf
    exact Runs.iloadN d36_35 rfl <| Runs.aloadN d36_36 rfl <| Runs.getI d36_37 w47 fS_1 <| Runs.iand d36_40 <| Runs.retI d36_41 rfl ⟨by decide, by decide⟩ ⟨rfl, rfl⟩
theorem X_echPivotMask_l4_p {C : Ctx} {top : Nat} {a : Nat} {H : List (Nat × Nat × Rec)} {ob : Rec} {res : Int32} {NF : Nat} (n : Nat) (i1 : Int32) (i2 : Int32) (hf : X_echPivotMask_l4 NF ob n i1 i2 = some res) : Runs C B36 0 0 4 [vr a, vi i1, vi i2] [] (top, (a, 17, ob) :: H) (Ans (some (.int res)) (top, (a, 17, ob) :: H)) := by
  induction n generalizing i1 i2 with
  | zero => cases (show (none : Option (Int32)) = some res from hf)
  | succ n ih => exact X_echPivotMask_w4_p (X_echPivotMask_l4 NF ob n) (fun i1 i2 h => ih _ _ h) i1 i2 hf
def X_echPivotMask (NF : Nat) (ob : Rec) : Option (Int32) :=
  X_echPivotMask_l4 NF ob NF (0 : Int32) (0 : Int32)
set_option maxRecDepth 65536 in
set_option maxHeartbeats 4000000 in
theorem X_echPivotMask_p {C : Ctx} {top : Nat} {a : Nat} {H : List (Nat × Nat × Rec)} {ob : Rec} {res : Int32} {NF : Nat} (hf : X_echPivotMask NF ob = some res) : Runs C B36 0 0 0 [vr a, vn, vn] [] (top, (a, 17, ob) :: H) (Ans (some (.int res)) (top, (a, 17, ob) :: H)) := by
  delta X_echPivotMask at hf
  exact Runs.iconst d36_0 ci_0 <| Runs.istoreN (P' := [vr a, vi (0 : Int32), vn]) d36_1 (by decide) rfl <| Runs.iconst d36_2 ci_0 <| Runs.istoreN (P' := [vr a, vi (0 : Int32), vi (0 : Int32)]) d36_3 (by decide) rfl <| X_echPivotMask_l4_p NF (0 : Int32) (0 : Int32) hf
theorem X_echPivotMask_pay {C : Ctx} {top : Nat} {a : Nat} {H : List (Nat × Nat × Rec)} {ob : Rec} {res : Int32} {NF : Nat} (hf : X_echPivotMask NF ob = some res) : Pays C B36 [.ref a] (top, (a, 17, ob) :: H) (Ans (some (.int res)) (top, (a, 17, ob) :: H)) :=
  Pays.of pnK (Nat.le_of_ble_eq_true rfl) (P := [vr a, vn, vn]) 2 rfl (X_echPivotMask_p hf)
def X_completeFromFree_w4 (NF : Nat) (ob : Rec) (k4 : Int32 → Int32 → Int32 → Option (Int32)) (i1 : Int32) (i2 : Int32) (i3 : Int32) : Option (Int32) :=
  if i3 < (gI ob 8) then
    if i3 < (16 : Int32) then
      chk (16 : Int32) i3 <|
      chk (16 : Int32) i3 <|
      chk (16 : Int32) i3 <|
      (X_parity ob (((gA ob 7 i3) &&& (((1 : Int32) <<< ((gA ob 9 i3) &&& 31)) ^^^ (-1 : Int32))) &&& i1)).bind fun r6 =>
      if ((gA ob 8 i3) ^^^ r6) = (0 : Int32) then
        k4 i1 i2 (i3 + (1 : Int32))
      else
        k4 i1 (i2 ||| ((1 : Int32) <<< ((gA ob 9 i3) &&& 31))) (i3 + (1 : Int32))
    else
      some (i2 &&& (gI ob 1))
  else
    some (i2 &&& (gI ob 1))
def X_completeFromFree_l4 (NF : Nat) (ob : Rec) : Nat → Int32 → Int32 → Int32 → Option (Int32)
  | 0, _, _, _ => none
  | n + 1, i1, i2, i3 => X_completeFromFree_w4 NF ob (X_completeFromFree_l4 NF ob n) i1 i2 i3
set_option maxRecDepth 65536 in
set_option maxHeartbeats 4000000 in
theorem X_completeFromFree_w4_p {C : Ctx} {top : Nat} {a : Nat} {H : List (Nat × Nat × Rec)} {ob : Rec} {res : Int32} {NF : Nat} (k4 : Int32 → Int32 → Int32 → Option (Int32)) (hk4 : ∀ (i1 : Int32) (i2 : Int32) (i3 : Int32), k4 i1 i2 i3 = some res → Runs C B38 0 0 4 [vr a, vi i1, vi i2, vi i3, vn, vn, vn] [] (top, (a, 17, ob) :: H) (Ans (some (.int res)) (top, (a, 17, ob) :: H))) (i1 : Int32) (i2 : Int32) (i3 : Int32) (hf : X_completeFromFree_w4 NF ob k4 i1 i2 i3 = some res) : Runs C B38 0 0 4 [vr a, vi i1, vi i2, vi i3, vn, vn, vn] [] (top, (a, 17, ob) :: H) (Ans (some (.int res)) (top, (a, 17, ob) :: H)) := by
  delta X_completeFromFree_w4 at hf
  refine Runs.iloadN d38_4 rfl <| Runs.aloadN d38_5 rfl <| Runs.getI d38_6 w65 fS_8 <| ?_
  refine ite_el hf (fun hc1 hf => ?_) (fun hc1 hf => ?_)
  · refine Runs.icN d38_9 (tlt hc1).2.1 <| ?_
    refine Runs.iloadN d38_12 rfl <| Runs.bipush d38_13 cb_16 <| ?_
    refine ite_el hf (fun hc2 hf => ?_) (fun hc2 hf => ?_)
    · refine Runs.icN d38_15 (tlt hc2).2.1 <| ?_
      refine Runs.aloadN d38_18 rfl <| Runs.getA d38_19 fA_9 w29 (by decide) <| Runs.iloadN d38_22 rfl <| ?_
      refine chk_el hf fun hi3 hf => ?_
      refine Runs.ialoadA d38_23 fA_9 (by decide) hi3 <| Runs.istore (P' := [vr a, vi i1, vi i2, vi i3, vi (gA ob 9 i3), vn, vn]) d38_24 (by decide) rfl <| Runs.aloadN d38_26 rfl <| Runs.getA d38_27 fA_7 w25 (by decide) <| Runs.iloadN d38_30 rfl <| ?_
      refine chk_el hf fun hi4 hf => ?_
      refine Runs.ialoadA d38_31 fA_7 (by decide) hi4 <| Runs.iconst d38_32 ci_1 <| Runs.iload d38_33 rfl <| Runs.ishl d38_35 <| Runs.iconst d38_36 ci_m1 <| Runs.ixor d38_37 <| Runs.iand d38_38 <| Runs.istore (P' := [vr a, vi i1, vi i2, vi i3, vi (gA ob 9 i3), vi ((gA ob 7 i3) &&& (((1 : Int32) <<< ((gA ob 9 i3) &&& 31)) ^^^ (-1 : Int32))), vn]) d38_39 (by decide) rfl <| Runs.aloadN d38_41 rfl <| Runs.getA d38_42 fA_8 w27 (by decide) <| Runs.iloadN d38_45 rfl <| ?_
      refine chk_el hf fun hi5 hf => ?_
      refine Runs.ialoadA d38_46 fA_8 (by decide) hi5 <| Runs.aloadN d38_47 rfl <| Runs.iload d38_48 rfl <| Runs.iloadN d38_50 rfl <| Runs.iand d38_51 <| ?_
      refine bind_el hf fun r6 hg7 hf => ?_
      refine Runs.callP (N := B24) (W := 1) (as := [.int (((gA ob 7 i3) &&& (((1 : Int32) <<< ((gA ob 9 i3) &&& 31)) ^^^ (-1 : Int32))) &&& i1)]) (S' := [.int (gA ob 8 i3)]) d38_52 w173 w174 w175 rfl cw24 ar24 rk38_24_1 (by decide) rfl rfl (X_parity_pay hg7) <| ans1 <| Runs.ixor d38_55 <| Runs.istore (P' := [vr a, vi i1, vi i2, vi i3, vi (gA ob 9 i3), vi ((gA ob 7 i3) &&& (((1 : Int32) <<< ((gA ob 9 i3) &&& 31)) ^^^ (-1 : Int32))), vi ((gA ob 8 i3) ^^^ r6)]) d38_56 (by decide) rfl <| Runs.iload d38_58 rfl <| ?_
      refine ite_el hf (fun hc8 hf => ?_) (fun hc8 hf => ?_)
      · refine Runs.ifY (pc' := 70) d38_60 (teq hc8).1 (by decide) <| ?_
        exact Runs.iinc (P' := [vr a, vi i1, vi i2, vi (i3 + (1 : Int32)), vi (gA ob 9 i3), vi ((gA ob 7 i3) &&& (((1 : Int32) <<< ((gA ob 9 i3) &&& 31)) ^^^ (-1 : Int32))), vi ((gA ob 8 i3) ^^^ r6)]) d38_70 ci_1 rfl (by decide) rfl <| Runs.goto (pc' := 4) d38_73 (by decide) <| Runs.forget [true, true, true, true, false, false, false] rfl <| hk4 i1 i2 (i3 + (1 : Int32)) hf
      · refine Runs.ifN d38_60 (feq hc8).1 <| ?_
        exact Runs.iloadN d38_63 rfl <| Runs.iconst d38_64 ci_1 <| Runs.iload d38_65 rfl <| Runs.ishl d38_67 <| Runs.ior d38_68 <| Runs.istoreN (P' := [vr a, vi i1, vi (i2 ||| ((1 : Int32) <<< ((gA ob 9 i3) &&& 31))), vi i3, vi (gA ob 9 i3), vi ((gA ob 7 i3) &&& (((1 : Int32) <<< ((gA ob 9 i3) &&& 31)) ^^^ (-1 : Int32))), vi ((gA ob 8 i3) ^^^ r6)]) d38_69 (by decide) rfl <| Runs.iinc (P' := [vr a, vi i1, vi (i2 ||| ((1 : Int32) <<< ((gA ob 9 i3) &&& 31))), vi (i3 + (1 : Int32)), vi (gA ob 9 i3), vi ((gA ob 7 i3) &&& (((1 : Int32) <<< ((gA ob 9 i3) &&& 31)) ^^^ (-1 : Int32))), vi ((gA ob 8 i3) ^^^ r6)]) d38_70 ci_1 rfl (by decide) rfl <| Runs.goto (pc' := 4) d38_73 (by decide) <| Runs.forget [true, true, true, true, false, false, false] rfl <| hk4 i1 (i2 ||| ((1 : Int32) <<< ((gA ob 9 i3) &&& 31))) (i3 + (1 : Int32)) hf
    · refine Runs.icY (pc' := 76) d38_15 (flt hc2).2.1 (by decide) <| ?_
      obtain rfl := Option.some.inj hf
      exact Runs.iloadN d38_76 rfl <| Runs.aloadN d38_77 rfl <| Runs.getI d38_78 w47 fS_1 <| Runs.iand d38_81 <| Runs.retI d38_82 rfl ⟨by decide, by decide⟩ ⟨rfl, rfl⟩
  · refine Runs.icY (pc' := 76) d38_9 (flt hc1).2.1 (by decide) <| ?_
    obtain rfl := Option.some.inj hf
    exact Runs.iloadN d38_76 rfl <| Runs.aloadN d38_77 rfl <| Runs.getI d38_78 w47 fS_1 <| Runs.iand d38_81 <| Runs.retI d38_82 rfl ⟨by decide, by decide⟩ ⟨rfl, rfl⟩
theorem X_completeFromFree_l4_p {C : Ctx} {top : Nat} {a : Nat} {H : List (Nat × Nat × Rec)} {ob : Rec} {res : Int32} {NF : Nat} (n : Nat) (i1 : Int32) (i2 : Int32) (i3 : Int32) (hf : X_completeFromFree_l4 NF ob n i1 i2 i3 = some res) : Runs C B38 0 0 4 [vr a, vi i1, vi i2, vi i3, vn, vn, vn] [] (top, (a, 17, ob) :: H) (Ans (some (.int res)) (top, (a, 17, ob) :: H)) := by
  induction n generalizing i1 i2 i3 with
  | zero => cases (show (none : Option (Int32)) = some res from hf)
  | succ n ih => exact X_completeFromFree_w4_p (X_completeFromFree_l4 NF ob n) (fun i1 i2 i3 h => ih _ _ _ h) i1 i2 i3 hf
def X_completeFromFree (NF : Nat) (ob : Rec) (i1 : Int32) : Option (Int32) :=
  X_completeFromFree_l4 NF ob NF i1 i1 (0 : Int32)
set_option maxRecDepth 65536 in
set_option maxHeartbeats 4000000 in
theorem X_completeFromFree_p {C : Ctx} {top : Nat} {a : Nat} {H : List (Nat × Nat × Rec)} {ob : Rec} {res : Int32} {NF : Nat} (i1 : Int32) (hf : X_completeFromFree NF ob i1 = some res) : Runs C B38 0 0 0 [vr a, vi i1, vn, vn, vn, vn, vn] [] (top, (a, 17, ob) :: H) (Ans (some (.int res)) (top, (a, 17, ob) :: H)) := by
  delta X_completeFromFree at hf
  exact Runs.iloadN d38_0 rfl <| Runs.istoreN (P' := [vr a, vi i1, vi i1, vn, vn, vn, vn]) d38_1 (by decide) rfl <| Runs.iconst d38_2 ci_0 <| Runs.istoreN (P' := [vr a, vi i1, vi i1, vi (0 : Int32), vn, vn, vn]) d38_3 (by decide) rfl <| X_completeFromFree_l4_p NF i1 i1 (0 : Int32) hf
theorem X_completeFromFree_pay {C : Ctx} {top : Nat} {a : Nat} {H : List (Nat × Nat × Rec)} {ob : Rec} {res : Int32} {NF : Nat} {i1 : Int32} (hf : X_completeFromFree NF ob i1 = some res) : Pays C B38 [.ref a, .int i1] (top, (a, 17, ob) :: H) (Ans (some (.int res)) (top, (a, 17, ob) :: H)) :=
  Pays.of pnK (Nat.le_of_ble_eq_true rfl) (P := [vr a, vi i1, vn, vn, vn, vn, vn]) 5 rfl (X_completeFromFree_p i1 hf)
def X_allClausesHold_w2 (NF : Nat) (ob : Rec) (k2 : Int32 → Int32 → Option (Int32)) (i1 : Int32) (i2 : Int32) : Option (Int32) :=
  if i2 < (gI ob 5) then
    if i2 < (24 : Int32) then
      (X_clauseHolds ob i2 i1).bind fun r3 =>
      if r3 = (0 : Int32) then
        some (0 : Int32)
      else
        k2 i1 (i2 + (1 : Int32))
    else
      some (1 : Int32)
  else
    some (1 : Int32)
def X_allClausesHold_l2 (NF : Nat) (ob : Rec) : Nat → Int32 → Int32 → Option (Int32)
  | 0, _, _ => none
  | n + 1, i1, i2 => X_allClausesHold_w2 NF ob (X_allClausesHold_l2 NF ob n) i1 i2
set_option maxRecDepth 65536 in
set_option maxHeartbeats 4000000 in
theorem X_allClausesHold_w2_p {C : Ctx} {top : Nat} {a : Nat} {H : List (Nat × Nat × Rec)} {ob : Rec} {res : Int32} {NF : Nat} (k2 : Int32 → Int32 → Option (Int32)) (hk2 : ∀ (i1 : Int32) (i2 : Int32), k2 i1 i2 = some res → Runs C B39 0 0 2 [vr a, vi i1, vi i2] [] (top, (a, 17, ob) :: H) (Ans (some (.int res)) (top, (a, 17, ob) :: H))) (i1 : Int32) (i2 : Int32) (hf : X_allClausesHold_w2 NF ob k2 i1 i2 = some res) : Runs C B39 0 0 2 [vr a, vi i1, vi i2] [] (top, (a, 17, ob) :: H) (Ans (some (.int res)) (top, (a, 17, ob) :: H)) := by
  delta X_allClausesHold_w2 at hf
  refine Runs.iloadN d39_2 rfl <| Runs.aloadN d39_3 rfl <| Runs.getI d39_4 w55 fS_5 <| ?_
  refine ite_el hf (fun hc1 hf => ?_) (fun hc1 hf => ?_)
  · refine Runs.icN d39_7 (tlt hc1).2.1 <| ?_
    refine Runs.iloadN d39_10 rfl <| Runs.bipush d39_11 cb_24 <| ?_
    refine ite_el hf (fun hc2 hf => ?_) (fun hc2 hf => ?_)
    · refine Runs.icN d39_13 (tlt hc2).2.1 <| ?_
      refine Runs.aloadN d39_16 rfl <| Runs.iloadN d39_17 rfl <| Runs.iloadN d39_18 rfl <| ?_
      refine bind_el hf fun r3 hg4 hf => ?_
      refine Runs.callP (N := B30) (W := 0) (as := [.int i2, .int i1]) (S' := []) d39_19 w198 w199 w200 rfl cw30 ar30 rk39_30_0 (by decide) rfl rfl (X_clauseHolds_pay hg4) <| ans1 <| ?_
      refine ite_el hf (fun hc5 hf => ?_) (fun hc5 hf => ?_)
      · refine Runs.ifN d39_22 (teq hc5).2 <| ?_
        obtain rfl := Option.some.inj hf
        exact Runs.iconst d39_25 ci_0 <| Runs.retZ (y := (0 : Int32)) d39_26 rfl ⟨by decide, by decide⟩ rfl ⟨rfl, rfl⟩
      · refine Runs.ifY (pc' := 27) d39_22 (feq hc5).2 (by decide) <| ?_
        exact Runs.iinc (P' := [vr a, vi i1, vi (i2 + (1 : Int32))]) d39_27 ci_1 rfl (by decide) rfl <| Runs.goto (pc' := 2) d39_30 (by decide) <| hk2 i1 (i2 + (1 : Int32)) hf
    · refine Runs.icY (pc' := 33) d39_13 (flt hc2).2.1 (by decide) <| ?_
      obtain rfl := Option.some.inj hf
      exact Runs.iconst d39_33 ci_1 <| Runs.retZ (y := (1 : Int32)) d39_34 rfl ⟨by decide, by decide⟩ rfl ⟨rfl, rfl⟩
  · refine Runs.icY (pc' := 33) d39_7 (flt hc1).2.1 (by decide) <| ?_
    obtain rfl := Option.some.inj hf
    exact Runs.iconst d39_33 ci_1 <| Runs.retZ (y := (1 : Int32)) d39_34 rfl ⟨by decide, by decide⟩ rfl ⟨rfl, rfl⟩
theorem X_allClausesHold_l2_p {C : Ctx} {top : Nat} {a : Nat} {H : List (Nat × Nat × Rec)} {ob : Rec} {res : Int32} {NF : Nat} (n : Nat) (i1 : Int32) (i2 : Int32) (hf : X_allClausesHold_l2 NF ob n i1 i2 = some res) : Runs C B39 0 0 2 [vr a, vi i1, vi i2] [] (top, (a, 17, ob) :: H) (Ans (some (.int res)) (top, (a, 17, ob) :: H)) := by
  induction n generalizing i1 i2 with
  | zero => cases (show (none : Option (Int32)) = some res from hf)
  | succ n ih => exact X_allClausesHold_w2_p (X_allClausesHold_l2 NF ob n) (fun i1 i2 h => ih _ _ h) i1 i2 hf
def X_allClausesHold (NF : Nat) (ob : Rec) (i1 : Int32) : Option (Int32) :=
  X_allClausesHold_l2 NF ob NF i1 (0 : Int32)
set_option maxRecDepth 65536 in
set_option maxHeartbeats 4000000 in
theorem X_allClausesHold_p {C : Ctx} {top : Nat} {a : Nat} {H : List (Nat × Nat × Rec)} {ob : Rec} {res : Int32} {NF : Nat} (i1 : Int32) (hf : X_allClausesHold NF ob i1 = some res) : Runs C B39 0 0 0 [vr a, vi i1, vn] [] (top, (a, 17, ob) :: H) (Ans (some (.int res)) (top, (a, 17, ob) :: H)) := by
  delta X_allClausesHold at hf
  exact Runs.iconst d39_0 ci_0 <| Runs.istoreN (P' := [vr a, vi i1, vi (0 : Int32)]) d39_1 (by decide) rfl <| X_allClausesHold_l2_p NF i1 (0 : Int32) hf
theorem X_allClausesHold_pay {C : Ctx} {top : Nat} {a : Nat} {H : List (Nat × Nat × Rec)} {ob : Rec} {res : Int32} {NF : Nat} {i1 : Int32} (hf : X_allClausesHold NF ob i1 = some res) : Pays C B39 [.ref a, .int i1] (top, (a, 17, ob) :: H) (Ans (some (.int res)) (top, (a, 17, ob) :: H)) :=
  Pays.of pnK (Nat.le_of_ble_eq_true rfl) (P := [vr a, vi i1, vn]) 1 rfl (X_allClausesHold_p i1 hf)
def X_countAffinePoints_b34 (NF : Nat) (ob : Rec) (k7 : Int32 → Int32 → Int32 → Int32 → Option (Int32)) (i1 : Int32) (i2 : Int32) (i3 : Int32) (i4 : Int32) : Option (Int32) :=
  if ((i3 - i1) &&& i1) = (0 : Int32) then
    some i2
  else
    k7 i1 i2 ((i3 - i1) &&& i1) (i4 + (1 : Int32))
set_option maxRecDepth 65536 in
set_option maxHeartbeats 4000000 in
theorem X_countAffinePoints_b34_p {C : Ctx} {top : Nat} {a : Nat} {H : List (Nat × Nat × Rec)} {ob : Rec} {res : Int32} {NF : Nat} (k7 : Int32 → Int32 → Int32 → Int32 → Option (Int32)) (hk7 : ∀ (i1 : Int32) (i2 : Int32) (i3 : Int32) (i4 : Int32), k7 i1 i2 i3 i4 = some res → Runs C B37 0 0 7 [vr a, vi i1, vi i2, vi i3, vi i4, vn] [] (top, (a, 17, ob) :: H) (Ans (some (.int res)) (top, (a, 17, ob) :: H))) (i1 : Int32) (i2 : Int32) (i3 : Int32) (i4 : Int32) (hf : X_countAffinePoints_b34 NF ob k7 i1 i2 i3 i4 = some res) : Runs C B37 0 0 34 [vr a, vi i1, vi i2, vi i3, vi i4, vn] [] (top, (a, 17, ob) :: H) (Ans (some (.int res)) (top, (a, 17, ob) :: H)) := by
  delta X_countAffinePoints_b34 at hf
  refine Runs.iloadN d37_34 rfl <| Runs.iloadN d37_35 rfl <| Runs.isub d37_36 <| Runs.iloadN d37_37 rfl <| Runs.iand d37_38 <| Runs.istoreN (P' := [vr a, vi i1, vi i2, vi ((i3 - i1) &&& i1), vi i4, vn]) d37_39 (by decide) rfl <| Runs.iloadN d37_40 rfl <| ?_
  refine ite_el hf (fun hc7 hf => ?_) (fun hc7 hf => ?_)
  · refine Runs.ifN d37_41 (teq hc7).2 <| ?_
    obtain rfl := Option.some.inj hf
    exact Runs.goto (pc' := 53) d37_44 (by decide) <| Runs.iloadN d37_53 rfl <| Runs.retI d37_54 rfl ⟨by decide, by decide⟩ ⟨rfl, rfl⟩
  · refine Runs.ifY (pc' := 47) d37_41 (feq hc7).2 (by decide) <| ?_
    exact Runs.iinc (P' := [vr a, vi i1, vi i2, vi ((i3 - i1) &&& i1), vi (i4 + (1 : Int32)), vn]) d37_47 ci_1 rfl (by decide) rfl <| Runs.goto (pc' := 7) d37_50 (by decide) <| hk7 i1 i2 ((i3 - i1) &&& i1) (i4 + (1 : Int32)) hf
def X_countAffinePoints_w7 (NF : Nat) (ob : Rec) (k7 : Int32 → Int32 → Int32 → Int32 → Option (Int32)) (i1 : Int32) (i2 : Int32) (i3 : Int32) (i4 : Int32) : Option (Int32) :=
  if i4 < (4097 : Int32) then
    (X_completeFromFree NF ob i3).bind fun r2 =>
    (X_allClausesHold NF ob r2).bind fun r4 =>
    if r4 = (0 : Int32) then
      X_countAffinePoints_b34 NF ob k7 i1 i2 i3 i4
    else
      X_countAffinePoints_b34 NF ob k7 i1 (i2 + (1 : Int32)) i3 i4
  else
    some i2
def X_countAffinePoints_l7 (NF : Nat) (ob : Rec) : Nat → Int32 → Int32 → Int32 → Int32 → Option (Int32)
  | 0, _, _, _, _ => none
  | n + 1, i1, i2, i3, i4 => X_countAffinePoints_w7 NF ob (X_countAffinePoints_l7 NF ob n) i1 i2 i3 i4
set_option maxRecDepth 65536 in
set_option maxHeartbeats 4000000 in
theorem X_countAffinePoints_w7_p {C : Ctx} {top : Nat} {a : Nat} {H : List (Nat × Nat × Rec)} {ob : Rec} {res : Int32} {NF : Nat} (k7 : Int32 → Int32 → Int32 → Int32 → Option (Int32)) (hk7 : ∀ (i1 : Int32) (i2 : Int32) (i3 : Int32) (i4 : Int32), k7 i1 i2 i3 i4 = some res → Runs C B37 0 0 7 [vr a, vi i1, vi i2, vi i3, vi i4, vn] [] (top, (a, 17, ob) :: H) (Ans (some (.int res)) (top, (a, 17, ob) :: H))) (i1 : Int32) (i2 : Int32) (i3 : Int32) (i4 : Int32) (hf : X_countAffinePoints_w7 NF ob k7 i1 i2 i3 i4 = some res) : Runs C B37 0 0 7 [vr a, vi i1, vi i2, vi i3, vi i4, vn] [] (top, (a, 17, ob) :: H) (Ans (some (.int res)) (top, (a, 17, ob) :: H)) := by
  delta X_countAffinePoints_w7 at hf
  refine Runs.iload d37_7 rfl <| Runs.sipush d37_9 cs_4097 <| ?_
  refine ite_el hf (fun hc1 hf => ?_) (fun hc1 hf => ?_)
  · refine Runs.icN d37_12 (tlt hc1).2.1 <| ?_
    refine Runs.aloadN d37_15 rfl <| Runs.iloadN d37_16 rfl <| ?_
    refine bind_el hf fun r2 hg3 hf => ?_
    refine Runs.callP (N := B38) (W := 0) (as := [.int i3]) (S' := []) d37_17 w234 w235 w236 rfl cw38 ar38 rk37_38_0 (by decide) rfl rfl (X_completeFromFree_pay hg3) <| ans1 <| Runs.istore (P' := [vr a, vi i1, vi i2, vi i3, vi i4, vi r2]) d37_20 (by decide) rfl <| Runs.aloadN d37_22 rfl <| Runs.iload d37_23 rfl <| ?_
    refine bind_el hf fun r4 hg5 hf => ?_
    refine Runs.callP (N := B39) (W := 0) (as := [.int r2]) (S' := []) d37_25 w238 w239 w240 rfl cw39 ar39 rk37_39_0 (by decide) rfl rfl (X_allClausesHold_pay hg5) <| ans1 <| ?_
    refine ite_el hf (fun hc6 hf => ?_) (fun hc6 hf => ?_)
    · exact Runs.ifY (pc' := 34) d37_28 (teq hc6).1 (by decide) <| Runs.forget [true, true, true, true, true, false] rfl <| X_countAffinePoints_b34_p k7 hk7 i1 i2 i3 i4 hf
    · refine Runs.ifN d37_28 (feq hc6).1 <| ?_
      exact Runs.iinc (P' := [vr a, vi i1, vi (i2 + (1 : Int32)), vi i3, vi i4, vi r2]) d37_31 ci_1 rfl (by decide) rfl <| Runs.forget [true, true, true, true, true, false] rfl <| X_countAffinePoints_b34_p k7 hk7 i1 (i2 + (1 : Int32)) i3 i4 hf
  · refine Runs.icY (pc' := 53) d37_12 (flt hc1).2.1 (by decide) <| ?_
    obtain rfl := Option.some.inj hf
    exact Runs.iloadN d37_53 rfl <| Runs.retI d37_54 rfl ⟨by decide, by decide⟩ ⟨rfl, rfl⟩
theorem X_countAffinePoints_l7_p {C : Ctx} {top : Nat} {a : Nat} {H : List (Nat × Nat × Rec)} {ob : Rec} {res : Int32} {NF : Nat} (n : Nat) (i1 : Int32) (i2 : Int32) (i3 : Int32) (i4 : Int32) (hf : X_countAffinePoints_l7 NF ob n i1 i2 i3 i4 = some res) : Runs C B37 0 0 7 [vr a, vi i1, vi i2, vi i3, vi i4, vn] [] (top, (a, 17, ob) :: H) (Ans (some (.int res)) (top, (a, 17, ob) :: H)) := by
  induction n generalizing i1 i2 i3 i4 with
  | zero => cases (show (none : Option (Int32)) = some res from hf)
  | succ n ih => exact X_countAffinePoints_w7_p (X_countAffinePoints_l7 NF ob n) (fun i1 i2 i3 i4 h => ih _ _ _ _ h) i1 i2 i3 i4 hf
def X_countAffinePoints (NF : Nat) (ob : Rec) (i1 : Int32) : Option (Int32) :=
  X_countAffinePoints_l7 NF ob NF i1 (0 : Int32) (0 : Int32) (0 : Int32)
set_option maxRecDepth 65536 in
set_option maxHeartbeats 4000000 in
theorem X_countAffinePoints_p {C : Ctx} {top : Nat} {a : Nat} {H : List (Nat × Nat × Rec)} {ob : Rec} {res : Int32} {NF : Nat} (i1 : Int32) (hf : X_countAffinePoints NF ob i1 = some res) : Runs C B37 0 0 0 [vr a, vi i1, vn, vn, vn, vn] [] (top, (a, 17, ob) :: H) (Ans (some (.int res)) (top, (a, 17, ob) :: H)) := by
  delta X_countAffinePoints at hf
  exact Runs.iconst d37_0 ci_0 <| Runs.istoreN (P' := [vr a, vi i1, vi (0 : Int32), vn, vn, vn]) d37_1 (by decide) rfl <| Runs.iconst d37_2 ci_0 <| Runs.istoreN (P' := [vr a, vi i1, vi (0 : Int32), vi (0 : Int32), vn, vn]) d37_3 (by decide) rfl <| Runs.iconst d37_4 ci_0 <| Runs.istore (P' := [vr a, vi i1, vi (0 : Int32), vi (0 : Int32), vi (0 : Int32), vn]) d37_5 (by decide) rfl <| X_countAffinePoints_l7_p NF i1 (0 : Int32) (0 : Int32) (0 : Int32) hf
theorem X_countAffinePoints_pay {C : Ctx} {top : Nat} {a : Nat} {H : List (Nat × Nat × Rec)} {ob : Rec} {res : Int32} {NF : Nat} {i1 : Int32} (hf : X_countAffinePoints NF ob i1 = some res) : Pays C B37 [.ref a, .int i1] (top, (a, 17, ob) :: H) (Ans (some (.int res)) (top, (a, 17, ob) :: H)) :=
  Pays.of pnK (Nat.le_of_ble_eq_true rfl) (P := [vr a, vi i1, vn, vn, vn, vn]) 4 rfl (X_countAffinePoints_p i1 hf)
def X_countModels (NF : Nat) (ob : Rec) : Option (Int32 × Rec) :=
  (X_ensureEchelon NF ob).bind fun q1 =>
  if (gI q1 9) = (0 : Int32) then
    some ((0 : Int32), q1)
  else
    (X_echPivotMask NF q1).bind fun r4 =>
    if (gI q1 5) = (0 : Int32) then
      none
    else
      (X_countAffinePoints NF q1 ((gI q1 1) &&& (r4 ^^^ (-1 : Int32)))).bind fun r7 =>
      some (r7, q1)
set_option maxRecDepth 65536 in
set_option maxHeartbeats 4000000 in
theorem X_countModels_p {C : Ctx} {top : Nat} {a : Nat} {H : List (Nat × Nat × Rec)} {res : Int32 × Rec} {NF : Nat} (ob : Rec) (hf : X_countModels NF ob = some res) : Runs C B35 0 0 0 [vr a, vn, vn] [] (top, (a, 17, ob) :: H) (Ans (some (.int res.1)) (top, (a, 17, res.2) :: H)) := by
  delta X_countModels at hf
  refine Runs.aloadN d35_0 rfl <| ?_
  refine bind_el hf fun q1 hg2 hf => ?_
  refine Runs.callP (N := B11) (W := 0) (as := []) (S' := []) d35_1 w107 w108 w109 rfl cw11 ar11 rk35_11_0 (by decide) rfl rfl (X_ensureEchelon_pay hg2) <| ans0 <| Runs.aloadN d35_4 rfl <| Runs.getI d35_5 w63 fS_9 <| ?_
  refine ite_el hf (fun hc3 hf => ?_) (fun hc3 hf => ?_)
  · refine Runs.ifN d35_8 (teq hc3).2 <| ?_
    obtain rfl := Option.some.inj hf
    exact Runs.iconst d35_11 ci_0 <| Runs.retI d35_12 rfl ⟨by decide, by decide⟩ ⟨rfl, rfl⟩
  · refine Runs.ifY (pc' := 13) d35_8 (feq hc3).2 (by decide) <| ?_
    refine Runs.aloadN d35_13 rfl <| Runs.getI d35_14 w47 fS_1 <| Runs.aloadN d35_17 rfl <| ?_
    refine bind_el hf fun r4 hg5 hf => ?_
    refine Runs.callP (N := B36) (W := 1) (as := []) (S' := [.int (gI q1 1)]) d35_18 w226 w227 w228 rfl cw36 ar36 rk35_36_1 (by decide) rfl rfl (X_echPivotMask_pay hg5) <| ans1 <| Runs.iconst d35_21 ci_m1 <| Runs.ixor d35_22 <| Runs.iand d35_23 <| Runs.istoreN (P' := [vr a, vi ((gI q1 1) &&& (r4 ^^^ (-1 : Int32))), vn]) d35_24 (by decide) rfl <| Runs.aloadN d35_25 rfl <| Runs.getI d35_26 w55 fS_5 <| ?_
    refine ite_el hf (fun hc6 hf => ?_) (fun hc6 hf => ?_)
    · refine Runs.ifN d35_29 (teq hc6).2 <| ?_
      cases hf
    · refine Runs.ifY (pc' := 42) d35_29 (feq hc6).2 (by decide) <| ?_
      refine Runs.aloadN d35_42 rfl <| Runs.iloadN d35_43 rfl <| ?_
      refine bind_el hf fun r7 hg8 hf => ?_
      obtain rfl := Option.some.inj hf
      exact Runs.callP (N := B37) (W := 0) (as := [.int ((gI q1 1) &&& (r4 ^^^ (-1 : Int32)))]) (S' := []) d35_44 w230 w231 w232 rfl cw37 ar37 rk35_37_0 (by decide) rfl rfl (X_countAffinePoints_pay hg8) <| ans1 <| Runs.retI d35_47 rfl ⟨by decide, by decide⟩ ⟨rfl, rfl⟩
theorem X_countModels_pay {C : Ctx} {top : Nat} {a : Nat} {H : List (Nat × Nat × Rec)} {res : Int32 × Rec} {NF : Nat} {ob : Rec} (hf : X_countModels NF ob = some res) : Pays C B35 [.ref a] (top, (a, 17, ob) :: H) (Ans (some (.int res.1)) (top, (a, 17, res.2) :: H)) :=
  Pays.of pnK (Nat.le_of_ble_eq_true rfl) (P := [vr a, vn, vn]) 2 rfl (X_countModels_p ob hf)
def X_backbone_b72 (NF : Nat) (ob : Rec) (i1 : Int32) (i3 : Int32) : Option (Int32 × Rec) :=
  bind2 (X_search NF ob i1 (i3 ^^^ (1 : Int32))) fun r3 q4 =>
  if r3 = (0 : Int32) then
    if i3 = (1 : Int32) then
      some ((1 : Int32), q4)
    else
      some ((0 : Int32), q4)
  else
    some ((2 : Int32), q4)
set_option maxRecDepth 65536 in
set_option maxHeartbeats 4000000 in
theorem X_backbone_b72_p {C : Ctx} {top : Nat} {a : Nat} {H : List (Nat × Nat × Rec)} {res : Int32 × Rec} {NF : Nat} (ob : Rec) (i1 : Int32) (i3 : Int32) (hf : X_backbone_b72 NF ob i1 i3 = some res) : Runs C B40 0 0 72 [vr a, vi i1, vn, vi i3] [] (top, (a, 17, ob) :: H) (Ans (some (.int res.1)) (top, (a, 17, res.2) :: H)) := by
  delta X_backbone_b72 at hf
  refine Runs.aloadN d40_72 rfl <| Runs.iloadN d40_73 rfl <| Runs.iloadN d40_74 rfl <| Runs.iconst d40_75 ci_1 <| Runs.ixor d40_76 <| ?_
  refine bind2_el hf fun r3 q4 hg5 hf => ?_
  refine Runs.callP (N := B10) (W := 0) (as := [.int i1, .int (i3 ^^^ (1 : Int32))]) (S' := []) d40_77 w103 w104 w105 rfl cw10 ar10 rk40_10_0 (by decide) rfl rfl (X_search_pay hg5) <| ans1 <| ?_
  refine ite_el hf (fun hc6 hf => ?_) (fun hc6 hf => ?_)
  · refine Runs.ifY (pc' := 85) d40_80 (teq hc6).1 (by decide) <| ?_
    refine Runs.iloadN d40_85 rfl <| Runs.iconst d40_86 ci_1 <| ?_
    refine ite_el hf (fun hc7 hf => ?_) (fun hc7 hf => ?_)
    · refine Runs.icN d40_87 (teq hc7).2 <| ?_
      obtain rfl := Option.some.inj hf
      exact Runs.iconst d40_90 ci_1 <| Runs.retI d40_91 rfl ⟨by decide, by decide⟩ ⟨rfl, rfl⟩
    · refine Runs.icY (pc' := 92) d40_87 (feq hc7).2 (by decide) <| ?_
      obtain rfl := Option.some.inj hf
      exact Runs.iconst d40_92 ci_0 <| Runs.retI d40_93 rfl ⟨by decide, by decide⟩ ⟨rfl, rfl⟩
  · refine Runs.ifN d40_80 (feq hc6).1 <| ?_
    obtain rfl := Option.some.inj hf
    exact Runs.iconst d40_83 ci_2 <| Runs.retI d40_84 rfl ⟨by decide, by decide⟩ ⟨rfl, rfl⟩
def X_backbone_b55 (NF : Nat) (ob : Rec) (i1 : Int32) (i2 : Int32) : Option (Int32 × Rec) :=
  if i1 = (0 : Int32) then
    if (((i2.toUInt32 >>> (i1 &&& 31).toUInt32).toInt32) &&& (1 : Int32)) = (1 : Int32) then
      some ((1 : Int32), ob)
    else
      X_backbone_b72 NF ob i1 (((i2.toUInt32 >>> (i1 &&& 31).toUInt32).toInt32) &&& (1 : Int32))
  else
    X_backbone_b72 NF ob i1 (((i2.toUInt32 >>> (i1 &&& 31).toUInt32).toInt32) &&& (1 : Int32))
set_option maxRecDepth 65536 in
set_option maxHeartbeats 4000000 in
theorem X_backbone_b55_p {C : Ctx} {top : Nat} {a : Nat} {H : List (Nat × Nat × Rec)} {res : Int32 × Rec} {NF : Nat} (ob : Rec) (i1 : Int32) (i2 : Int32) (hf : X_backbone_b55 NF ob i1 i2 = some res) : Runs C B40 0 0 55 [vr a, vi i1, vi i2, vn] [] (top, (a, 17, ob) :: H) (Ans (some (.int res.1)) (top, (a, 17, res.2) :: H)) := by
  delta X_backbone_b55 at hf
  refine Runs.iloadN d40_55 rfl <| Runs.iloadN d40_56 rfl <| Runs.iushr d40_57 <| Runs.iconst d40_58 ci_1 <| Runs.iand d40_59 <| Runs.istoreN (P' := [vr a, vi i1, vi i2, vi (((i2.toUInt32 >>> (i1 &&& 31).toUInt32).toInt32) &&& (1 : Int32))]) d40_60 (by decide) rfl <| Runs.iloadN d40_61 rfl <| ?_
  refine ite_el hf (fun hc1 hf => ?_) (fun hc1 hf => ?_)
  · refine Runs.ifN d40_62 (teq hc1).2 <| ?_
    refine Runs.iloadN d40_65 rfl <| Runs.iconst d40_66 ci_1 <| ?_
    refine ite_el hf (fun hc2 hf => ?_) (fun hc2 hf => ?_)
    · refine Runs.icN d40_67 (teq hc2).2 <| ?_
      obtain rfl := Option.some.inj hf
      exact Runs.iconst d40_70 ci_1 <| Runs.retI d40_71 rfl ⟨by decide, by decide⟩ ⟨rfl, rfl⟩
    · exact Runs.icY (pc' := 72) d40_67 (feq hc2).2 (by decide) <| Runs.forget [true, true, false, true] rfl <| X_backbone_b72_p ob i1 (((i2.toUInt32 >>> (i1 &&& 31).toUInt32).toInt32) &&& (1 : Int32)) hf
  · exact Runs.ifY (pc' := 72) d40_62 (feq hc1).2 (by decide) <| Runs.forget [true, true, false, true] rfl <| X_backbone_b72_p ob i1 (((i2.toUInt32 >>> (i1 &&& 31).toUInt32).toInt32) &&& (1 : Int32)) hf
def X_backbone (NF : Nat) (ob : Rec) (i1 : Int32) : Option (Int32 × Rec) :=
  if i1 < (0 : Int32) then
    some ((-1 : Int32), ob)
  else
    if i1 < (gI ob 0) then
      if (gI ob 2) = (0 : Int32) then
        some ((3 : Int32), ob)
      else
        if (gI ob 2) = (1 : Int32) then
          X_backbone_b55 NF ob i1 (gI ob 3)
        else
          bind2 (X_search NF ob (-1 : Int32) (0 : Int32)) fun r12 q13 =>
          if r12 = (0 : Int32) then
            some ((3 : Int32), q13)
          else
            X_backbone_b55 NF q13 i1 (gI q13 17)
    else
      some ((-1 : Int32), ob)
set_option maxRecDepth 65536 in
set_option maxHeartbeats 4000000 in
theorem X_backbone_p {C : Ctx} {top : Nat} {a : Nat} {H : List (Nat × Nat × Rec)} {res : Int32 × Rec} {NF : Nat} (ob : Rec) (i1 : Int32) (hf : X_backbone NF ob i1 = some res) : Runs C B40 0 0 0 [vr a, vi i1, vn, vn] [] (top, (a, 17, ob) :: H) (Ans (some (.int res.1)) (top, (a, 17, res.2) :: H)) := by
  delta X_backbone at hf
  refine Runs.iloadN d40_0 rfl <| ?_
  refine ite_el hf (fun hc8 hf => ?_) (fun hc8 hf => ?_)
  · refine Runs.ifY (pc' := 12) d40_1 (tlt hc8).1 (by decide) <| ?_
    obtain rfl := Option.some.inj hf
    exact Runs.iconst d40_12 ci_m1 <| Runs.retI d40_13 rfl ⟨by decide, by decide⟩ ⟨rfl, rfl⟩
  · refine Runs.ifN d40_1 (flt hc8).1 <| ?_
    refine Runs.iloadN d40_4 rfl <| Runs.aloadN d40_5 rfl <| Runs.getI d40_6 w45 fS_0 <| ?_
    refine ite_el hf (fun hc9 hf => ?_) (fun hc9 hf => ?_)
    · refine Runs.icY (pc' := 14) d40_9 (tlt hc9).1 (by decide) <| ?_
      refine Runs.aloadN d40_14 rfl <| Runs.getI d40_15 w49 fS_2 <| ?_
      refine ite_el hf (fun hc10 hf => ?_) (fun hc10 hf => ?_)
      · refine Runs.ifN d40_18 (teq hc10).2 <| ?_
        obtain rfl := Option.some.inj hf
        exact Runs.iconst d40_21 ci_3 <| Runs.retI d40_22 rfl ⟨by decide, by decide⟩ ⟨rfl, rfl⟩
      · refine Runs.ifY (pc' := 23) d40_18 (feq hc10).2 (by decide) <| ?_
        refine Runs.aloadN d40_23 rfl <| Runs.getI d40_24 w49 fS_2 <| Runs.iconst d40_27 ci_1 <| ?_
        refine ite_el hf (fun hc11 hf => ?_) (fun hc11 hf => ?_)
        · refine Runs.icN d40_28 (teq hc11).2 <| ?_
          exact Runs.aloadN d40_31 rfl <| Runs.getI d40_32 w51 fS_3 <| Runs.istoreN (P' := [vr a, vi i1, vi (gI ob 3), vn]) d40_35 (by decide) rfl <| Runs.goto (pc' := 55) d40_36 (by decide) <| X_backbone_b55_p ob i1 (gI ob 3) hf
        · refine Runs.icY (pc' := 39) d40_28 (feq hc11).2 (by decide) <| ?_
          refine Runs.aloadN d40_39 rfl <| Runs.iconst d40_40 ci_m1 <| Runs.iconst d40_41 ci_0 <| ?_
          refine bind2_el hf fun r12 q13 hg14 hf => ?_
          refine Runs.callP (N := B10) (W := 0) (as := [.int (-1 : Int32), .int (0 : Int32)]) (S' := []) d40_42 w103 w104 w105 rfl cw10 ar10 rk40_10_0 (by decide) rfl rfl (X_search_pay hg14) <| ans1 <| ?_
          refine ite_el hf (fun hc15 hf => ?_) (fun hc15 hf => ?_)
          · refine Runs.ifN d40_45 (teq hc15).2 <| ?_
            obtain rfl := Option.some.inj hf
            exact Runs.iconst d40_48 ci_3 <| Runs.retI d40_49 rfl ⟨by decide, by decide⟩ ⟨rfl, rfl⟩
          · refine Runs.ifY (pc' := 50) d40_45 (feq hc15).2 (by decide) <| ?_
            exact Runs.aloadN d40_50 rfl <| Runs.getI d40_51 w147 fS_17 <| Runs.istoreN (P' := [vr a, vi i1, vi (gI q13 17), vn]) d40_54 (by decide) rfl <| X_backbone_b55_p q13 i1 (gI q13 17) hf
    · refine Runs.icN d40_9 (flt hc9).1 <| ?_
      obtain rfl := Option.some.inj hf
      exact Runs.iconst d40_12 ci_m1 <| Runs.retI d40_13 rfl ⟨by decide, by decide⟩ ⟨rfl, rfl⟩
theorem X_backbone_pay {C : Ctx} {top : Nat} {a : Nat} {H : List (Nat × Nat × Rec)} {res : Int32 × Rec} {NF : Nat} {ob : Rec} {i1 : Int32} (hf : X_backbone NF ob i1 = some res) : Pays C B40 [.ref a, .int i1] (top, (a, 17, ob) :: H) (Ans (some (.int res.1)) (top, (a, 17, res.2) :: H)) :=
  Pays.of pnK (Nat.le_of_ble_eq_true rfl) (P := [vr a, vi i1, vn, vn]) 2 rfl (X_backbone_p ob i1 hf)
def L_bb (i0 : Int32) (i1 : Int32) : Option (Int32) :=
  if i0 = (0 : Int32) then
    some (3 : Int32)
  else
    if i1 = (0 : Int32) then
      some (0 : Int32)
    else
      if i1 = i0 then
        some (1 : Int32)
      else
        some (2 : Int32)
set_option maxRecDepth 65536 in
set_option maxHeartbeats 4000000 in
theorem L_bb_p {C : Ctx} {G : AH} {res : Int32} (i0 : Int32) (i1 : Int32) (hf : L_bb i0 i1 = some res) : Runs C B41 0 0 0 [vi i0, vi i1] [] G (Ans (some (.int res)) G) := by
  delta L_bb at hf
  refine Runs.iloadN d41_0 rfl <| ?_
  refine ite_el hf (fun hc1 hf => ?_) (fun hc1 hf => ?_)
  · refine Runs.ifN d41_1 (teq hc1).2 <| ?_
    obtain rfl := Option.some.inj hf
    exact Runs.iconst d41_4 ci_3 <| Runs.retI d41_5 rfl ⟨by decide, by decide⟩ ⟨rfl, rfl⟩
  · refine Runs.ifY (pc' := 6) d41_1 (feq hc1).2 (by decide) <| ?_
    refine Runs.iloadN d41_6 rfl <| ?_
    refine ite_el hf (fun hc2 hf => ?_) (fun hc2 hf => ?_)
    · refine Runs.ifN d41_7 (teq hc2).2 <| ?_
      obtain rfl := Option.some.inj hf
      exact Runs.iconst d41_10 ci_0 <| Runs.retI d41_11 rfl ⟨by decide, by decide⟩ ⟨rfl, rfl⟩
    · refine Runs.ifY (pc' := 12) d41_7 (feq hc2).2 (by decide) <| ?_
      refine Runs.iloadN d41_12 rfl <| Runs.iloadN d41_13 rfl <| ?_
      refine ite_el hf (fun hc3 hf => ?_) (fun hc3 hf => ?_)
      · refine Runs.icN d41_14 (teq hc3).2 <| ?_
        obtain rfl := Option.some.inj hf
        exact Runs.iconst d41_17 ci_1 <| Runs.retI d41_18 rfl ⟨by decide, by decide⟩ ⟨rfl, rfl⟩
      · refine Runs.icY (pc' := 19) d41_14 (feq hc3).2 (by decide) <| ?_
        obtain rfl := Option.some.inj hf
        exact Runs.iconst d41_19 ci_2 <| Runs.retI d41_20 rfl ⟨by decide, by decide⟩ ⟨rfl, rfl⟩
theorem L_bb_pay {C : Ctx} {G : AH} {res : Int32} {i0 : Int32} {i1 : Int32} (hf : L_bb i0 i1 = some res) : Pays C B41 [.int i0, .int i1] G (Ans (some (.int res)) G) :=
  Pays.of pnL (Nat.le_of_ble_eq_true rfl) (P := [vi i0, vi i1]) 0 rfl (L_bb_p i0 i1 hf)
def L_law_b415 (NF : Nat) (k290 : Rec → Int32 → Int32 → Int32 → Int32 → Int32 → Int32 → Int32 → Int32 → Int32 → Int32 → Int32 → Int32 → Int32 → Int32 → Int32 → Option (Int32)) (ob : Rec) (i0 : Int32) (i1 : Int32) (i2 : Int32) (i3 : Int32) (i4 : Int32) (i5 : Int32) (i7 : Int32) (i8 : Int32) (i9 : Int32) (i10 : Int32) (i11 : Int32) (i12 : Int32) (i13 : Int32) (i14 : Int32) (i15 : Int32) (i16 : Int32) : Option (Int32) :=
  k290 ob i0 i1 i2 i3 i4 i5 i7 i8 i9 i10 (i11 + (1 : Int32)) (i12 + (i16 &&& (1 : Int32))) (i13 + ((i16 >>> ((1 : Int32) &&& 31)) &&& (1 : Int32))) (i14 + ((i16 >>> ((2 : Int32) &&& 31)) &&& (1 : Int32))) (i15 + (1 : Int32))
set_option maxRecDepth 65536 in
set_option maxHeartbeats 4000000 in
theorem L_law_b415_p {C : Ctx} {res : Int32} {NF : Nat} (k290 : Rec → Int32 → Int32 → Int32 → Int32 → Int32 → Int32 → Int32 → Int32 → Int32 → Int32 → Int32 → Int32 → Int32 → Int32 → Int32 → Option (Int32)) (hk290 : ∀ (ob : Rec) (i0 : Int32) (i1 : Int32) (i2 : Int32) (i3 : Int32) (i4 : Int32) (i5 : Int32) (i7 : Int32) (i8 : Int32) (i9 : Int32) (i10 : Int32) (i11 : Int32) (i12 : Int32) (i13 : Int32) (i14 : Int32) (i15 : Int32), k290 ob i0 i1 i2 i3 i4 i5 i7 i8 i9 i10 i11 i12 i13 i14 i15 = some res → Runs C B0 18 318 290 [vi i0, vi i1, vi i2, vi i3, vi i4, vi i5, vr C.2.2.1, vi i7, vi i8, vi i9, vi i10, vi i11, vi i12, vi i13, vi i14, vi i15, vn, vn, vn, vn] [] (C.2.2.1 + 1 + 17, (C.2.2.1, 17, ob) :: []) (fun v _ => v = (some (.int res)))) (ob : Rec) (i0 : Int32) (i1 : Int32) (i2 : Int32) (i3 : Int32) (i4 : Int32) (i5 : Int32) (i7 : Int32) (i8 : Int32) (i9 : Int32) (i10 : Int32) (i11 : Int32) (i12 : Int32) (i13 : Int32) (i14 : Int32) (i15 : Int32) (i16 : Int32) (hf : L_law_b415 NF k290 ob i0 i1 i2 i3 i4 i5 i7 i8 i9 i10 i11 i12 i13 i14 i15 i16 = some res) : Runs C B0 18 318 415 [vi i0, vi i1, vi i2, vi i3, vi i4, vi i5, vr C.2.2.1, vi i7, vi i8, vi i9, vi i10, vi i11, vi i12, vi i13, vi i14, vi i15, vi i16, vn, vn, vn] [] (C.2.2.1 + 1 + 17, (C.2.2.1, 17, ob) :: []) (fun v _ => v = (some (.int res))) := by
  delta L_law_b415 at hf
  refine Runs.iinc (P' := [vi i0, vi i1, vi i2, vi i3, vi i4, vi i5, vr C.2.2.1, vi i7, vi i8, vi i9, vi i10, vi (i11 + (1 : Int32)), vi i12, vi i13, vi i14, vi i15, vi i16, vn, vn, vn]) d0_415 ci_1 rfl (by decide) rfl <| Runs.iload d0_418 rfl <| Runs.iload d0_420 rfl <| Runs.iconst d0_422 ci_1 <| Runs.iand d0_423 <| Runs.iadd d0_424 <| Runs.istore (P' := [vi i0, vi i1, vi i2, vi i3, vi i4, vi i5, vr C.2.2.1, vi i7, vi i8, vi i9, vi i10, vi (i11 + (1 : Int32)), vi (i12 + (i16 &&& (1 : Int32))), vi i13, vi i14, vi i15, vi i16, vn, vn, vn]) d0_425 (by decide) rfl <| Runs.iload d0_427 rfl <| Runs.iload d0_429 rfl <| Runs.iconst d0_431 ci_1 <| Runs.ishr d0_432 <| Runs.iconst d0_433 ci_1 <| ?_
  refine Runs.iand d0_434 <| Runs.iadd d0_435 <| Runs.istore (P' := [vi i0, vi i1, vi i2, vi i3, vi i4, vi i5, vr C.2.2.1, vi i7, vi i8, vi i9, vi i10, vi (i11 + (1 : Int32)), vi (i12 + (i16 &&& (1 : Int32))), vi (i13 + ((i16 >>> ((1 : Int32) &&& 31)) &&& (1 : Int32))), vi i14, vi i15, vi i16, vn, vn, vn]) d0_436 (by decide) rfl <| Runs.iload d0_438 rfl <| Runs.iload d0_440 rfl <| Runs.iconst d0_442 ci_2 <| Runs.ishr d0_443 <| Runs.iconst d0_444 ci_1 <| Runs.iand d0_445 <| Runs.iadd d0_446 <| Runs.istore (P' := [vi i0, vi i1, vi i2, vi i3, vi i4, vi i5, vr C.2.2.1, vi i7, vi i8, vi i9, vi i10, vi (i11 + (1 : Int32)), vi (i12 + (i16 &&& (1 : Int32))), vi (i13 + ((i16 >>> ((1 : Int32) &&& 31)) &&& (1 : Int32))), vi (i14 + ((i16 >>> ((2 : Int32) &&& 31)) &&& (1 : Int32))), vi i15, vi i16, vn, vn, vn]) d0_447 (by decide) rfl <| Runs.iinc (P' := [vi i0, vi i1, vi i2, vi i3, vi i4, vi i5, vr C.2.2.1, vi i7, vi i8, vi i9, vi i10, vi (i11 + (1 : Int32)), vi (i12 + (i16 &&& (1 : Int32))), vi (i13 + ((i16 >>> ((1 : Int32) &&& 31)) &&& (1 : Int32))), vi (i14 + ((i16 >>> ((2 : Int32) &&& 31)) &&& (1 : Int32))), vi (i15 + (1 : Int32)), vi i16, vn, vn, vn]) d0_449 ci_1 rfl (by decide) rfl <| ?_
  exact Runs.goto (pc' := 290) d0_452 (by decide) <| Runs.forget [true, true, true, true, true, true, true, true, true, true, true, true, true, true, true, true, false, false, false, false] rfl <| hk290 ob i0 i1 i2 i3 i4 i5 i7 i8 i9 i10 (i11 + (1 : Int32)) (i12 + (i16 &&& (1 : Int32))) (i13 + ((i16 >>> ((1 : Int32) &&& 31)) &&& (1 : Int32))) (i14 + ((i16 >>> ((2 : Int32) &&& 31)) &&& (1 : Int32))) (i15 + (1 : Int32)) hf
def L_law_b394 (NF : Nat) (k290 : Rec → Int32 → Int32 → Int32 → Int32 → Int32 → Int32 → Int32 → Int32 → Int32 → Int32 → Int32 → Int32 → Int32 → Int32 → Int32 → Option (Int32)) (ob : Rec) (i0 : Int32) (i1 : Int32) (i2 : Int32) (i3 : Int32) (i4 : Int32) (i5 : Int32) (i7 : Int32) (i8 : Int32) (i9 : Int32) (i10 : Int32) (i11 : Int32) (i12 : Int32) (i13 : Int32) (i14 : Int32) (i15 : Int32) (i16 : Int32) (i18 : Int32) (t0 : Int32) : Option (Int32) :=
  if i18 = (0 : Int32) then
    k290 ob i0 i1 i2 i3 i4 i5 i7 i8 i9 i10 i11 i12 i13 i14 (i15 + (1 : Int32))
  else
    if t0 = (0 : Int32) then
      k290 ob i0 i1 i2 i3 i4 i5 i7 i8 i9 i10 i11 i12 i13 i14 (i15 + (1 : Int32))
    else
      if i10 < (0 : Int32) then
        L_law_b415 NF k290 ob i0 i1 i2 i3 i4 i5 i7 i8 i9 i16 i11 i12 i13 i14 i15 i16
      else
        L_law_b415 NF k290 ob i0 i1 i2 i3 i4 i5 i7 i8 i9 i10 i11 i12 i13 i14 i15 i16
set_option maxRecDepth 65536 in
set_option maxHeartbeats 4000000 in
theorem L_law_b394_p {C : Ctx} {res : Int32} {NF : Nat} (k290 : Rec → Int32 → Int32 → Int32 → Int32 → Int32 → Int32 → Int32 → Int32 → Int32 → Int32 → Int32 → Int32 → Int32 → Int32 → Int32 → Option (Int32)) (hk290 : ∀ (ob : Rec) (i0 : Int32) (i1 : Int32) (i2 : Int32) (i3 : Int32) (i4 : Int32) (i5 : Int32) (i7 : Int32) (i8 : Int32) (i9 : Int32) (i10 : Int32) (i11 : Int32) (i12 : Int32) (i13 : Int32) (i14 : Int32) (i15 : Int32), k290 ob i0 i1 i2 i3 i4 i5 i7 i8 i9 i10 i11 i12 i13 i14 i15 = some res → Runs C B0 18 318 290 [vi i0, vi i1, vi i2, vi i3, vi i4, vi i5, vr C.2.2.1, vi i7, vi i8, vi i9, vi i10, vi i11, vi i12, vi i13, vi i14, vi i15, vn, vn, vn, vn] [] (C.2.2.1 + 1 + 17, (C.2.2.1, 17, ob) :: []) (fun v _ => v = (some (.int res)))) (ob : Rec) (i0 : Int32) (i1 : Int32) (i2 : Int32) (i3 : Int32) (i4 : Int32) (i5 : Int32) (i7 : Int32) (i8 : Int32) (i9 : Int32) (i10 : Int32) (i11 : Int32) (i12 : Int32) (i13 : Int32) (i14 : Int32) (i15 : Int32) (i16 : Int32) (i18 : Int32) (t0 : Int32) (hf : L_law_b394 NF k290 ob i0 i1 i2 i3 i4 i5 i7 i8 i9 i10 i11 i12 i13 i14 i15 i16 i18 t0 = some res) : Runs C B0 18 318 394 [vi i0, vi i1, vi i2, vi i3, vi i4, vi i5, vr C.2.2.1, vi i7, vi i8, vi i9, vi i10, vi i11, vi i12, vi i13, vi i14, vi i15, vi i16, vn, vi i18, vn] [.int t0] (C.2.2.1 + 1 + 17, (C.2.2.1, 17, ob) :: []) (fun v _ => v = (some (.int res))) := by
  delta L_law_b394 at hf
  refine Runs.istore (P' := [vi i0, vi i1, vi i2, vi i3, vi i4, vi i5, vr C.2.2.1, vi i7, vi i8, vi i9, vi i10, vi i11, vi i12, vi i13, vi i14, vi i15, vi i16, vn, vi i18, vi t0]) d0_394 (by decide) rfl <| Runs.iload d0_396 rfl <| ?_
  refine ite_el hf (fun hc53 hf => ?_) (fun hc53 hf => ?_)
  · refine Runs.ifY (pc' := 449) d0_398 (teq hc53).1 (by decide) <| ?_
    exact Runs.iinc (P' := [vi i0, vi i1, vi i2, vi i3, vi i4, vi i5, vr C.2.2.1, vi i7, vi i8, vi i9, vi i10, vi i11, vi i12, vi i13, vi i14, vi (i15 + (1 : Int32)), vi i16, vn, vi i18, vi t0]) d0_449 ci_1 rfl (by decide) rfl <| Runs.goto (pc' := 290) d0_452 (by decide) <| Runs.forget [true, true, true, true, true, true, true, true, true, true, true, true, true, true, true, true, false, false, false, false] rfl <| hk290 ob i0 i1 i2 i3 i4 i5 i7 i8 i9 i10 i11 i12 i13 i14 (i15 + (1 : Int32)) hf
  · refine Runs.ifN d0_398 (feq hc53).1 <| ?_
    refine Runs.iload d0_401 rfl <| ?_
    refine ite_el hf (fun hc54 hf => ?_) (fun hc54 hf => ?_)
    · refine Runs.ifY (pc' := 449) d0_403 (teq hc54).1 (by decide) <| ?_
      exact Runs.iinc (P' := [vi i0, vi i1, vi i2, vi i3, vi i4, vi i5, vr C.2.2.1, vi i7, vi i8, vi i9, vi i10, vi i11, vi i12, vi i13, vi i14, vi (i15 + (1 : Int32)), vi i16, vn, vi i18, vi t0]) d0_449 ci_1 rfl (by decide) rfl <| Runs.goto (pc' := 290) d0_452 (by decide) <| Runs.forget [true, true, true, true, true, true, true, true, true, true, true, true, true, true, true, true, false, false, false, false] rfl <| hk290 ob i0 i1 i2 i3 i4 i5 i7 i8 i9 i10 i11 i12 i13 i14 (i15 + (1 : Int32)) hf
    · refine Runs.ifN d0_403 (feq hc54).1 <| ?_
      refine Runs.iload d0_406 rfl <| ?_
      refine ite_el hf (fun hc55 hf => ?_) (fun hc55 hf => ?_)
      · refine Runs.ifN d0_408 (tlt hc55).2.1 <| ?_
        exact Runs.iload d0_411 rfl <| Runs.istore (P' := [vi i0, vi i1, vi i2, vi i3, vi i4, vi i5, vr C.2.2.1, vi i7, vi i8, vi i9, vi i16, vi i11, vi i12, vi i13, vi i14, vi i15, vi i16, vn, vi i18, vi t0]) d0_413 (by decide) rfl <| Runs.forget [true, true, true, true, true, true, true, true, true, true, true, true, true, true, true, true, true, false, false, false] rfl <| L_law_b415_p k290 hk290 ob i0 i1 i2 i3 i4 i5 i7 i8 i9 i16 i11 i12 i13 i14 i15 i16 hf
      · exact Runs.ifY (pc' := 415) d0_408 (flt hc55).2.1 (by decide) <| Runs.forget [true, true, true, true, true, true, true, true, true, true, true, true, true, true, true, true, true, false, false, false] rfl <| L_law_b415_p k290 hk290 ob i0 i1 i2 i3 i4 i5 i7 i8 i9 i10 i11 i12 i13 i14 i15 i16 hf
def L_law_b370 (NF : Nat) (k290 : Rec → Int32 → Int32 → Int32 → Int32 → Int32 → Int32 → Int32 → Int32 → Int32 → Int32 → Int32 → Int32 → Int32 → Int32 → Int32 → Option (Int32)) (ob : Rec) (i0 : Int32) (i1 : Int32) (i2 : Int32) (i3 : Int32) (i4 : Int32) (i5 : Int32) (i7 : Int32) (i8 : Int32) (i9 : Int32) (i10 : Int32) (i11 : Int32) (i12 : Int32) (i13 : Int32) (i14 : Int32) (i15 : Int32) (i16 : Int32) (i18 : Int32) : Option (Int32) :=
  if i9 = (0 : Int32) then
    L_law_b394 NF k290 ob i0 i1 i2 i3 i4 i5 i7 i8 i9 i10 i11 i12 i13 i14 i15 i16 i18 (0 : Int32)
  else
    if ((i16 >>> (i4 &&& 31)) &&& (1 : Int32)) = (i5 &&& (1 : Int32)) then
      L_law_b394 NF k290 ob i0 i1 i2 i3 i4 i5 i7 i8 i9 i10 i11 i12 i13 i14 i15 i16 i18 (0 : Int32)
    else
      L_law_b394 NF k290 ob i0 i1 i2 i3 i4 i5 i7 i8 i9 i10 i11 i12 i13 i14 i15 i16 i18 (1 : Int32)
set_option maxRecDepth 65536 in
set_option maxHeartbeats 4000000 in
theorem L_law_b370_p {C : Ctx} {res : Int32} {NF : Nat} (k290 : Rec → Int32 → Int32 → Int32 → Int32 → Int32 → Int32 → Int32 → Int32 → Int32 → Int32 → Int32 → Int32 → Int32 → Int32 → Int32 → Option (Int32)) (hk290 : ∀ (ob : Rec) (i0 : Int32) (i1 : Int32) (i2 : Int32) (i3 : Int32) (i4 : Int32) (i5 : Int32) (i7 : Int32) (i8 : Int32) (i9 : Int32) (i10 : Int32) (i11 : Int32) (i12 : Int32) (i13 : Int32) (i14 : Int32) (i15 : Int32), k290 ob i0 i1 i2 i3 i4 i5 i7 i8 i9 i10 i11 i12 i13 i14 i15 = some res → Runs C B0 18 318 290 [vi i0, vi i1, vi i2, vi i3, vi i4, vi i5, vr C.2.2.1, vi i7, vi i8, vi i9, vi i10, vi i11, vi i12, vi i13, vi i14, vi i15, vn, vn, vn, vn] [] (C.2.2.1 + 1 + 17, (C.2.2.1, 17, ob) :: []) (fun v _ => v = (some (.int res)))) (ob : Rec) (i0 : Int32) (i1 : Int32) (i2 : Int32) (i3 : Int32) (i4 : Int32) (i5 : Int32) (i7 : Int32) (i8 : Int32) (i9 : Int32) (i10 : Int32) (i11 : Int32) (i12 : Int32) (i13 : Int32) (i14 : Int32) (i15 : Int32) (i16 : Int32) (i18 : Int32) (hf : L_law_b370 NF k290 ob i0 i1 i2 i3 i4 i5 i7 i8 i9 i10 i11 i12 i13 i14 i15 i16 i18 = some res) : Runs C B0 18 318 370 [vi i0, vi i1, vi i2, vi i3, vi i4, vi i5, vr C.2.2.1, vi i7, vi i8, vi i9, vi i10, vi i11, vi i12, vi i13, vi i14, vi i15, vi i16, vn, vi i18, vn] [] (C.2.2.1 + 1 + 17, (C.2.2.1, 17, ob) :: []) (fun v _ => v = (some (.int res))) := by
  delta L_law_b370 at hf
  refine Runs.iload d0_370 rfl <| ?_
  refine ite_el hf (fun hc51 hf => ?_) (fun hc51 hf => ?_)
  · refine Runs.ifY (pc' := 393) d0_372 (teq hc51).1 (by decide) <| ?_
    exact Runs.iconst d0_393 ci_0 <| L_law_b394_p k290 hk290 ob i0 i1 i2 i3 i4 i5 i7 i8 i9 i10 i11 i12 i13 i14 i15 i16 i18 (0 : Int32) hf
  · refine Runs.ifN d0_372 (feq hc51).1 <| ?_
    refine Runs.iload d0_375 rfl <| Runs.iload d0_377 rfl <| Runs.ishr d0_379 <| Runs.iconst d0_380 ci_1 <| Runs.iand d0_381 <| Runs.iload d0_382 rfl <| Runs.iconst d0_384 ci_1 <| Runs.iand d0_385 <| ?_
    refine ite_el hf (fun hc52 hf => ?_) (fun hc52 hf => ?_)
    · refine Runs.icY (pc' := 393) d0_386 (teq hc52).1 (by decide) <| ?_
      exact Runs.iconst d0_393 ci_0 <| L_law_b394_p k290 hk290 ob i0 i1 i2 i3 i4 i5 i7 i8 i9 i10 i11 i12 i13 i14 i15 i16 i18 (0 : Int32) hf
    · refine Runs.icN d0_386 (feq hc52).1 <| ?_
      exact Runs.iconst d0_389 ci_1 <| Runs.goto (pc' := 394) d0_390 (by decide) <| L_law_b394_p k290 hk290 ob i0 i1 i2 i3 i4 i5 i7 i8 i9 i10 i11 i12 i13 i14 i15 i16 i18 (1 : Int32) hf
def L_law_b351 (NF : Nat) (k290 : Rec → Int32 → Int32 → Int32 → Int32 → Int32 → Int32 → Int32 → Int32 → Int32 → Int32 → Int32 → Int32 → Int32 → Int32 → Int32 → Option (Int32)) (ob : Rec) (i0 : Int32) (i1 : Int32) (i2 : Int32) (i3 : Int32) (i4 : Int32) (i5 : Int32) (i7 : Int32) (i8 : Int32) (i9 : Int32) (i10 : Int32) (i11 : Int32) (i12 : Int32) (i13 : Int32) (i14 : Int32) (i15 : Int32) (i16 : Int32) (t0 : Int32) : Option (Int32) :=
  if i8 = (0 : Int32) then
    L_law_b370 NF k290 ob i0 i1 i2 i3 i4 i5 i7 i8 i9 i10 i11 i12 i13 i14 i15 i16 t0
  else
    if ((i16 >>> (i2 &&& 31)) &&& (1 : Int32)) = (i3 &&& (1 : Int32)) then
      L_law_b370 NF k290 ob i0 i1 i2 i3 i4 i5 i7 i8 i9 i10 i11 i12 i13 i14 i15 i16 t0
    else
      L_law_b394 NF k290 ob i0 i1 i2 i3 i4 i5 i7 i8 i9 i10 i11 i12 i13 i14 i15 i16 t0 (1 : Int32)
set_option maxRecDepth 65536 in
set_option maxHeartbeats 4000000 in
theorem L_law_b351_p {C : Ctx} {res : Int32} {NF : Nat} (k290 : Rec → Int32 → Int32 → Int32 → Int32 → Int32 → Int32 → Int32 → Int32 → Int32 → Int32 → Int32 → Int32 → Int32 → Int32 → Int32 → Option (Int32)) (hk290 : ∀ (ob : Rec) (i0 : Int32) (i1 : Int32) (i2 : Int32) (i3 : Int32) (i4 : Int32) (i5 : Int32) (i7 : Int32) (i8 : Int32) (i9 : Int32) (i10 : Int32) (i11 : Int32) (i12 : Int32) (i13 : Int32) (i14 : Int32) (i15 : Int32), k290 ob i0 i1 i2 i3 i4 i5 i7 i8 i9 i10 i11 i12 i13 i14 i15 = some res → Runs C B0 18 318 290 [vi i0, vi i1, vi i2, vi i3, vi i4, vi i5, vr C.2.2.1, vi i7, vi i8, vi i9, vi i10, vi i11, vi i12, vi i13, vi i14, vi i15, vn, vn, vn, vn] [] (C.2.2.1 + 1 + 17, (C.2.2.1, 17, ob) :: []) (fun v _ => v = (some (.int res)))) (ob : Rec) (i0 : Int32) (i1 : Int32) (i2 : Int32) (i3 : Int32) (i4 : Int32) (i5 : Int32) (i7 : Int32) (i8 : Int32) (i9 : Int32) (i10 : Int32) (i11 : Int32) (i12 : Int32) (i13 : Int32) (i14 : Int32) (i15 : Int32) (i16 : Int32) (t0 : Int32) (hf : L_law_b351 NF k290 ob i0 i1 i2 i3 i4 i5 i7 i8 i9 i10 i11 i12 i13 i14 i15 i16 t0 = some res) : Runs C B0 18 318 351 [vi i0, vi i1, vi i2, vi i3, vi i4, vi i5, vr C.2.2.1, vi i7, vi i8, vi i9, vi i10, vi i11, vi i12, vi i13, vi i14, vi i15, vi i16, vn, vn, vn] [.int t0] (C.2.2.1 + 1 + 17, (C.2.2.1, 17, ob) :: []) (fun v _ => v = (some (.int res))) := by
  delta L_law_b351 at hf
  refine Runs.istore (P' := [vi i0, vi i1, vi i2, vi i3, vi i4, vi i5, vr C.2.2.1, vi i7, vi i8, vi i9, vi i10, vi i11, vi i12, vi i13, vi i14, vi i15, vi i16, vn, vi t0, vn]) d0_351 (by decide) rfl <| Runs.iload d0_353 rfl <| ?_
  refine ite_el hf (fun hc49 hf => ?_) (fun hc49 hf => ?_)
  · exact Runs.ifY (pc' := 370) d0_355 (teq hc49).1 (by decide) <| L_law_b370_p k290 hk290 ob i0 i1 i2 i3 i4 i5 i7 i8 i9 i10 i11 i12 i13 i14 i15 i16 t0 hf
  · refine Runs.ifN d0_355 (feq hc49).1 <| ?_
    refine Runs.iload d0_358 rfl <| Runs.iloadN d0_360 rfl <| Runs.ishr d0_361 <| Runs.iconst d0_362 ci_1 <| Runs.iand d0_363 <| Runs.iloadN d0_364 rfl <| Runs.iconst d0_365 ci_1 <| Runs.iand d0_366 <| ?_
    refine ite_el hf (fun hc50 hf => ?_) (fun hc50 hf => ?_)
    · exact Runs.icN d0_367 (teq hc50).2 <| L_law_b370_p k290 hk290 ob i0 i1 i2 i3 i4 i5 i7 i8 i9 i10 i11 i12 i13 i14 i15 i16 t0 hf
    · refine Runs.icY (pc' := 389) d0_367 (feq hc50).2 (by decide) <| ?_
      exact Runs.iconst d0_389 ci_1 <| Runs.goto (pc' := 394) d0_390 (by decide) <| L_law_b394_p k290 hk290 ob i0 i1 i2 i3 i4 i5 i7 i8 i9 i10 i11 i12 i13 i14 i15 i16 t0 (1 : Int32) hf
def L_law_b739 (NF : Nat) (ob : Rec) (i11 : Int32) (i14 : Int32) (t0 : Int32) (t1 : Int32) : Option (Int32) :=
  bind2 (X_backbone NF ob (2 : Int32)) fun r96 q97 =>
  (L_bb i11 i14).bind fun r99 =>
  if r96 = r99 then
    some (((t0 &&& t1) &&& (1 : Int32)) &&& 1)
  else
    some (((t0 &&& t1) &&& (0 : Int32)) &&& 1)
set_option maxRecDepth 65536 in
set_option maxHeartbeats 4000000 in
theorem L_law_b739_p {C : Ctx} {res : Int32} {NF : Nat} (ob : Rec) (i11 : Int32) (i14 : Int32) (t0 : Int32) (t1 : Int32) (hf : L_law_b739 NF ob i11 i14 t0 t1 = some res) : Runs C B0 18 318 739 [vn, vn, vn, vn, vn, vn, vr C.2.2.1, vn, vn, vn, vn, vi i11, vn, vn, vi i14, vn, vn, vn, vn, vn] [.int t1, .int t0] (C.2.2.1 + 1 + 17, (C.2.2.1, 17, ob) :: []) (fun v _ => v = (some (.int res))) := by
  delta L_law_b739 at hf
  refine Runs.iand d0_739 <| Runs.istore (P' := [vn, vn, vn, vn, vn, vn, vr C.2.2.1, vi (t0 &&& t1), vn, vn, vn, vi i11, vn, vn, vi i14, vn, vn, vn, vn, vn]) d0_740 (by decide) rfl <| Runs.iload d0_742 rfl <| Runs.aload d0_744 rfl <| Runs.iconst d0_746 ci_2 <| ?_
  refine bind2_el hf fun r96 q97 hg98 hf => ?_
  refine Runs.callV (N := B40) (W := 1) (as := [.int (2 : Int32)]) (S' := [.int (t0 &&& t1)]) d0_747 w242 w243 w244 w245 cw40 ar40 rk0_40_1 (by decide) rfl rfl (X_backbone_pay hg98) <| ans1 <| Runs.iload d0_750 rfl <| Runs.iload d0_752 rfl <| ?_
  refine bind_el hf fun r99 hg100 hf => ?_
  refine Runs.callS (N := B41) (W := 2) (as := [.int i11, .int i14]) (S' := [.int r96, .int (t0 &&& t1)]) d0_754 w247 w248 cw41 ar41 rk0_41_2 (by decide) rfl rfl (L_bb_pay hg100) <| ans1 <| ?_
  refine ite_el hf (fun hc101 hf => ?_) (fun hc101 hf => ?_)
  · refine Runs.icN d0_757 (teq hc101).2 <| ?_
    obtain rfl := Option.some.inj hf
    exact Runs.iconst d0_760 ci_1 <| Runs.goto (pc' := 765) d0_761 (by decide) <| Runs.iand d0_765 <| Runs.istore (P' := [vn, vn, vn, vn, vn, vn, vr C.2.2.1, vi ((t0 &&& t1) &&& (1 : Int32)), vn, vn, vn, vi i11, vn, vn, vi i14, vn, vn, vn, vn, vn]) d0_766 (by decide) rfl <| Runs.iload d0_768 rfl <| Runs.retZ (y := (((t0 &&& t1) &&& (1 : Int32)) &&& 1)) d0_770 rfl ⟨by decide, by decide⟩ rfl rfl
  · refine Runs.icY (pc' := 764) d0_757 (feq hc101).2 (by decide) <| ?_
    obtain rfl := Option.some.inj hf
    exact Runs.iconst d0_764 ci_0 <| Runs.iand d0_765 <| Runs.istore (P' := [vn, vn, vn, vn, vn, vn, vr C.2.2.1, vi ((t0 &&& t1) &&& (0 : Int32)), vn, vn, vn, vi i11, vn, vn, vi i14, vn, vn, vn, vn, vn]) d0_766 (by decide) rfl <| Runs.iload d0_768 rfl <| Runs.retZ (y := (((t0 &&& t1) &&& (0 : Int32)) &&& 1)) d0_770 rfl ⟨by decide, by decide⟩ rfl rfl
def L_law_b713 (NF : Nat) (ob : Rec) (i11 : Int32) (i13 : Int32) (i14 : Int32) (t0 : Int32) (t1 : Int32) : Option (Int32) :=
  bind2 (X_backbone NF ob (1 : Int32)) fun r90 q91 =>
  (L_bb i11 i13).bind fun r93 =>
  if r90 = r93 then
    L_law_b739 NF q91 i11 i14 (t0 &&& t1) (1 : Int32)
  else
    L_law_b739 NF q91 i11 i14 (t0 &&& t1) (0 : Int32)
set_option maxRecDepth 65536 in
set_option maxHeartbeats 4000000 in
theorem L_law_b713_p {C : Ctx} {res : Int32} {NF : Nat} (ob : Rec) (i11 : Int32) (i13 : Int32) (i14 : Int32) (t0 : Int32) (t1 : Int32) (hf : L_law_b713 NF ob i11 i13 i14 t0 t1 = some res) : Runs C B0 18 318 713 [vn, vn, vn, vn, vn, vn, vr C.2.2.1, vn, vn, vn, vn, vi i11, vn, vi i13, vi i14, vn, vn, vn, vn, vn] [.int t1, .int t0] (C.2.2.1 + 1 + 17, (C.2.2.1, 17, ob) :: []) (fun v _ => v = (some (.int res))) := by
  delta L_law_b713 at hf
  refine Runs.iand d0_713 <| Runs.istore (P' := [vn, vn, vn, vn, vn, vn, vr C.2.2.1, vi (t0 &&& t1), vn, vn, vn, vi i11, vn, vi i13, vi i14, vn, vn, vn, vn, vn]) d0_714 (by decide) rfl <| Runs.iload d0_716 rfl <| Runs.aload d0_718 rfl <| Runs.iconst d0_720 ci_1 <| ?_
  refine bind2_el hf fun r90 q91 hg92 hf => ?_
  refine Runs.callV (N := B40) (W := 1) (as := [.int (1 : Int32)]) (S' := [.int (t0 &&& t1)]) d0_721 w242 w243 w244 w245 cw40 ar40 rk0_40_1 (by decide) rfl rfl (X_backbone_pay hg92) <| ans1 <| Runs.iload d0_724 rfl <| Runs.iload d0_726 rfl <| ?_
  refine bind_el hf fun r93 hg94 hf => ?_
  refine Runs.callS (N := B41) (W := 2) (as := [.int i11, .int i13]) (S' := [.int r90, .int (t0 &&& t1)]) d0_728 w247 w248 cw41 ar41 rk0_41_2 (by decide) rfl rfl (L_bb_pay hg94) <| ans1 <| ?_
  refine ite_el hf (fun hc95 hf => ?_) (fun hc95 hf => ?_)
  · refine Runs.icN d0_731 (teq hc95).2 <| ?_
    exact Runs.iconst d0_734 ci_1 <| Runs.goto (pc' := 739) d0_735 (by decide) <| Runs.forget [false, false, false, false, false, false, true, false, false, false, false, true, false, false, true, false, false, false, false, false] rfl <| L_law_b739_p q91 i11 i14 (t0 &&& t1) (1 : Int32) hf
  · refine Runs.icY (pc' := 738) d0_731 (feq hc95).2 (by decide) <| ?_
    exact Runs.iconst d0_738 ci_0 <| Runs.forget [false, false, false, false, false, false, true, false, false, false, false, true, false, false, true, false, false, false, false, false] rfl <| L_law_b739_p q91 i11 i14 (t0 &&& t1) (0 : Int32) hf
def L_law_b687 (NF : Nat) (ob : Rec) (i11 : Int32) (i12 : Int32) (i13 : Int32) (i14 : Int32) (t0 : Int32) (t1 : Int32) : Option (Int32) :=
  bind2 (X_backbone NF ob (0 : Int32)) fun r84 q85 =>
  (L_bb i11 i12).bind fun r87 =>
  if r84 = r87 then
    L_law_b713 NF q85 i11 i13 i14 (t0 &&& t1) (1 : Int32)
  else
    L_law_b713 NF q85 i11 i13 i14 (t0 &&& t1) (0 : Int32)
set_option maxRecDepth 65536 in
set_option maxHeartbeats 4000000 in
theorem L_law_b687_p {C : Ctx} {res : Int32} {NF : Nat} (ob : Rec) (i11 : Int32) (i12 : Int32) (i13 : Int32) (i14 : Int32) (t0 : Int32) (t1 : Int32) (hf : L_law_b687 NF ob i11 i12 i13 i14 t0 t1 = some res) : Runs C B0 18 318 687 [vn, vn, vn, vn, vn, vn, vr C.2.2.1, vn, vn, vn, vn, vi i11, vi i12, vi i13, vi i14, vn, vn, vn, vn, vn] [.int t1, .int t0] (C.2.2.1 + 1 + 17, (C.2.2.1, 17, ob) :: []) (fun v _ => v = (some (.int res))) := by
  delta L_law_b687 at hf
  refine Runs.iand d0_687 <| Runs.istore (P' := [vn, vn, vn, vn, vn, vn, vr C.2.2.1, vi (t0 &&& t1), vn, vn, vn, vi i11, vi i12, vi i13, vi i14, vn, vn, vn, vn, vn]) d0_688 (by decide) rfl <| Runs.iload d0_690 rfl <| Runs.aload d0_692 rfl <| Runs.iconst d0_694 ci_0 <| ?_
  refine bind2_el hf fun r84 q85 hg86 hf => ?_
  refine Runs.callV (N := B40) (W := 1) (as := [.int (0 : Int32)]) (S' := [.int (t0 &&& t1)]) d0_695 w242 w243 w244 w245 cw40 ar40 rk0_40_1 (by decide) rfl rfl (X_backbone_pay hg86) <| ans1 <| Runs.iload d0_698 rfl <| Runs.iload d0_700 rfl <| ?_
  refine bind_el hf fun r87 hg88 hf => ?_
  refine Runs.callS (N := B41) (W := 2) (as := [.int i11, .int i12]) (S' := [.int r84, .int (t0 &&& t1)]) d0_702 w247 w248 cw41 ar41 rk0_41_2 (by decide) rfl rfl (L_bb_pay hg88) <| ans1 <| ?_
  refine ite_el hf (fun hc89 hf => ?_) (fun hc89 hf => ?_)
  · refine Runs.icN d0_705 (teq hc89).2 <| ?_
    exact Runs.iconst d0_708 ci_1 <| Runs.goto (pc' := 713) d0_709 (by decide) <| Runs.forget [false, false, false, false, false, false, true, false, false, false, false, true, false, true, true, false, false, false, false, false] rfl <| L_law_b713_p q85 i11 i13 i14 (t0 &&& t1) (1 : Int32) hf
  · refine Runs.icY (pc' := 712) d0_705 (feq hc89).2 (by decide) <| ?_
    exact Runs.iconst d0_712 ci_0 <| Runs.forget [false, false, false, false, false, false, true, false, false, false, false, true, false, true, true, false, false, false, false, false] rfl <| L_law_b713_p q85 i11 i13 i14 (t0 &&& t1) (0 : Int32) hf
def L_law_b670 (NF : Nat) (ob : Rec) (i7 : Int32) (i11 : Int32) (i12 : Int32) (i13 : Int32) (i14 : Int32) : Option (Int32) :=
  bind2 (X_countModels NF ob) fun r80 q81 =>
  if r80 = i11 then
    L_law_b687 NF q81 i11 i12 i13 i14 i7 (1 : Int32)
  else
    L_law_b687 NF q81 i11 i12 i13 i14 i7 (0 : Int32)
set_option maxRecDepth 65536 in
set_option maxHeartbeats 4000000 in
theorem L_law_b670_p {C : Ctx} {res : Int32} {NF : Nat} (ob : Rec) (i7 : Int32) (i11 : Int32) (i12 : Int32) (i13 : Int32) (i14 : Int32) (hf : L_law_b670 NF ob i7 i11 i12 i13 i14 = some res) : Runs C B0 18 318 670 [vn, vn, vn, vn, vn, vn, vr C.2.2.1, vi i7, vn, vn, vn, vi i11, vi i12, vi i13, vi i14, vn, vn, vn, vn, vn] [] (C.2.2.1 + 1 + 17, (C.2.2.1, 17, ob) :: []) (fun v _ => v = (some (.int res))) := by
  delta L_law_b670 at hf
  refine Runs.iload d0_670 rfl <| Runs.aload d0_672 rfl <| ?_
  refine bind2_el hf fun r80 q81 hg82 hf => ?_
  refine Runs.callV (N := B35) (W := 1) (as := []) (S' := [.int i7]) d0_674 w221 w222 w223 w224 cw35 ar35 rk0_35_1 (by decide) rfl rfl (X_countModels_pay hg82) <| ans1 <| Runs.iload d0_677 rfl <| ?_
  refine ite_el hf (fun hc83 hf => ?_) (fun hc83 hf => ?_)
  · refine Runs.icN d0_679 (teq hc83).2 <| ?_
    exact Runs.iconst d0_682 ci_1 <| Runs.goto (pc' := 687) d0_683 (by decide) <| Runs.forget [false, false, false, false, false, false, true, false, false, false, false, true, true, true, true, false, false, false, false, false] rfl <| L_law_b687_p q81 i11 i12 i13 i14 i7 (1 : Int32) hf
  · refine Runs.icY (pc' := 686) d0_679 (feq hc83).2 (by decide) <| ?_
    exact Runs.iconst d0_686 ci_0 <| Runs.forget [false, false, false, false, false, false, true, false, false, false, false, true, true, true, true, false, false, false, false, false] rfl <| L_law_b687_p q81 i11 i12 i13 i14 i7 (0 : Int32) hf
def L_law_b516 (NF : Nat) (ob : Rec) (i11 : Int32) (i12 : Int32) (i13 : Int32) (i14 : Int32) (t0 : Int32) (t1 : Int32) : Option (Int32) :=
  (X_value ob (0 : Int32)).bind fun r62 =>
  if r62 = (-1 : Int32) then
    L_law_b670 NF ob ((t0 &&& t1) &&& (1 : Int32)) i11 i12 i13 i14
  else
    L_law_b670 NF ob ((t0 &&& t1) &&& (0 : Int32)) i11 i12 i13 i14
set_option maxRecDepth 65536 in
set_option maxHeartbeats 4000000 in
theorem L_law_b516_p {C : Ctx} {res : Int32} {NF : Nat} (ob : Rec) (i11 : Int32) (i12 : Int32) (i13 : Int32) (i14 : Int32) (t0 : Int32) (t1 : Int32) (hf : L_law_b516 NF ob i11 i12 i13 i14 t0 t1 = some res) : Runs C B0 18 318 516 [vn, vn, vn, vn, vn, vn, vr C.2.2.1, vn, vn, vn, vn, vi i11, vi i12, vi i13, vi i14, vn, vn, vn, vn, vn] [.int t1, .int t0] (C.2.2.1 + 1 + 17, (C.2.2.1, 17, ob) :: []) (fun v _ => v = (some (.int res))) := by
  delta L_law_b516 at hf
  refine Runs.iand d0_516 <| Runs.istore (P' := [vn, vn, vn, vn, vn, vn, vr C.2.2.1, vi (t0 &&& t1), vn, vn, vn, vi i11, vi i12, vi i13, vi i14, vn, vn, vn, vn, vn]) d0_517 (by decide) rfl <| Runs.iload d0_519 rfl <| Runs.aload d0_521 rfl <| Runs.iconst d0_523 ci_0 <| ?_
  refine bind_el hf fun r62 hg63 hf => ?_
  refine Runs.callV (N := B34) (W := 1) (as := [.int (0 : Int32)]) (S' := [.int (t0 &&& t1)]) d0_524 w216 w217 w218 w219 cw34 ar34 rk0_34_1 (by decide) rfl rfl (X_value_pay hg63) <| ans1 <| Runs.iconst d0_527 ci_m1 <| ?_
  refine ite_el hf (fun hc64 hf => ?_) (fun hc64 hf => ?_)
  · refine Runs.icN d0_528 (teq hc64).2 <| ?_
    exact Runs.iconst d0_531 ci_1 <| Runs.goto (pc' := 536) d0_532 (by decide) <| Runs.iand d0_536 <| Runs.istore (P' := [vn, vn, vn, vn, vn, vn, vr C.2.2.1, vi ((t0 &&& t1) &&& (1 : Int32)), vn, vn, vn, vi i11, vi i12, vi i13, vi i14, vn, vn, vn, vn, vn]) d0_537 (by decide) rfl <| Runs.goto (pc' := 670) d0_539 (by decide) <| L_law_b670_p ob ((t0 &&& t1) &&& (1 : Int32)) i11 i12 i13 i14 hf
  · refine Runs.icY (pc' := 535) d0_528 (feq hc64).2 (by decide) <| ?_
    exact Runs.iconst d0_535 ci_0 <| Runs.iand d0_536 <| Runs.istore (P' := [vn, vn, vn, vn, vn, vn, vr C.2.2.1, vi ((t0 &&& t1) &&& (0 : Int32)), vn, vn, vn, vi i11, vi i12, vi i13, vi i14, vn, vn, vn, vn, vn]) d0_537 (by decide) rfl <| Runs.goto (pc' := 670) d0_539 (by decide) <| L_law_b670_p ob ((t0 &&& t1) &&& (0 : Int32)) i11 i12 i13 i14 hf
def L_law_b497 (NF : Nat) (ob : Rec) (i11 : Int32) (i12 : Int32) (i13 : Int32) (i14 : Int32) (t0 : Int32) (t1 : Int32) : Option (Int32) :=
  (X_modelBits ob).bind fun r59 =>
  if r59 = (-1 : Int32) then
    L_law_b516 NF ob i11 i12 i13 i14 (t0 &&& t1) (1 : Int32)
  else
    L_law_b516 NF ob i11 i12 i13 i14 (t0 &&& t1) (0 : Int32)
set_option maxRecDepth 65536 in
set_option maxHeartbeats 4000000 in
theorem L_law_b497_p {C : Ctx} {res : Int32} {NF : Nat} (ob : Rec) (i11 : Int32) (i12 : Int32) (i13 : Int32) (i14 : Int32) (t0 : Int32) (t1 : Int32) (hf : L_law_b497 NF ob i11 i12 i13 i14 t0 t1 = some res) : Runs C B0 18 318 497 [vn, vn, vn, vn, vn, vn, vr C.2.2.1, vn, vn, vn, vn, vi i11, vi i12, vi i13, vi i14, vn, vn, vn, vn, vn] [.int t1, .int t0] (C.2.2.1 + 1 + 17, (C.2.2.1, 17, ob) :: []) (fun v _ => v = (some (.int res))) := by
  delta L_law_b497 at hf
  refine Runs.iand d0_497 <| Runs.istore (P' := [vn, vn, vn, vn, vn, vn, vr C.2.2.1, vi (t0 &&& t1), vn, vn, vn, vi i11, vi i12, vi i13, vi i14, vn, vn, vn, vn, vn]) d0_498 (by decide) rfl <| Runs.iload d0_500 rfl <| Runs.aload d0_502 rfl <| ?_
  refine bind_el hf fun r59 hg60 hf => ?_
  refine Runs.callV (N := B33) (W := 1) (as := []) (S' := [.int (t0 &&& t1)]) d0_504 w211 w212 w213 w214 cw33 ar33 rk0_33_1 (by decide) rfl rfl (X_modelBits_pay hg60) <| ans1 <| Runs.iconst d0_507 ci_m1 <| ?_
  refine ite_el hf (fun hc61 hf => ?_) (fun hc61 hf => ?_)
  · refine Runs.icN d0_508 (teq hc61).2 <| ?_
    exact Runs.iconst d0_511 ci_1 <| Runs.goto (pc' := 516) d0_512 (by decide) <| Runs.forget [false, false, false, false, false, false, true, false, false, false, false, true, true, true, true, false, false, false, false, false] rfl <| L_law_b516_p ob i11 i12 i13 i14 (t0 &&& t1) (1 : Int32) hf
  · refine Runs.icY (pc' := 515) d0_508 (feq hc61).2 (by decide) <| ?_
    exact Runs.iconst d0_515 ci_0 <| Runs.forget [false, false, false, false, false, false, true, false, false, false, false, true, true, true, true, false, false, false, false, false] rfl <| L_law_b516_p ob i11 i12 i13 i14 (t0 &&& t1) (0 : Int32) hf
def L_law_b479 (NF : Nat) (ob : Rec) (i11 : Int32) (i12 : Int32) (i13 : Int32) (i14 : Int32) (t0 : Int32) (t1 : Int32) : Option (Int32) :=
  (X_status ob).bind fun r56 =>
  if r56 = (0 : Int32) then
    L_law_b497 NF ob i11 i12 i13 i14 (t0 &&& t1) (1 : Int32)
  else
    L_law_b497 NF ob i11 i12 i13 i14 (t0 &&& t1) (0 : Int32)
set_option maxRecDepth 65536 in
set_option maxHeartbeats 4000000 in
theorem L_law_b479_p {C : Ctx} {res : Int32} {NF : Nat} (ob : Rec) (i11 : Int32) (i12 : Int32) (i13 : Int32) (i14 : Int32) (t0 : Int32) (t1 : Int32) (hf : L_law_b479 NF ob i11 i12 i13 i14 t0 t1 = some res) : Runs C B0 18 318 479 [vn, vn, vn, vn, vn, vn, vr C.2.2.1, vn, vn, vn, vn, vi i11, vi i12, vi i13, vi i14, vn, vn, vn, vn, vn] [.int t1, .int t0] (C.2.2.1 + 1 + 17, (C.2.2.1, 17, ob) :: []) (fun v _ => v = (some (.int res))) := by
  delta L_law_b479 at hf
  refine Runs.iand d0_479 <| Runs.istore (P' := [vn, vn, vn, vn, vn, vn, vr C.2.2.1, vi (t0 &&& t1), vn, vn, vn, vi i11, vi i12, vi i13, vi i14, vn, vn, vn, vn, vn]) d0_480 (by decide) rfl <| Runs.iload d0_482 rfl <| Runs.aload d0_484 rfl <| ?_
  refine bind_el hf fun r56 hg57 hf => ?_
  refine Runs.callV (N := B32) (W := 1) (as := []) (S' := [.int (t0 &&& t1)]) d0_486 w206 w207 w208 w209 cw32 ar32 rk0_32_1 (by decide) rfl rfl (X_status_pay hg57) <| ans1 <| ?_
  refine ite_el hf (fun hc58 hf => ?_) (fun hc58 hf => ?_)
  · refine Runs.ifN d0_489 (teq hc58).2 <| ?_
    exact Runs.iconst d0_492 ci_1 <| Runs.goto (pc' := 497) d0_493 (by decide) <| Runs.forget [false, false, false, false, false, false, true, false, false, false, false, true, true, true, true, false, false, false, false, false] rfl <| L_law_b497_p ob i11 i12 i13 i14 (t0 &&& t1) (1 : Int32) hf
  · refine Runs.ifY (pc' := 496) d0_489 (feq hc58).2 (by decide) <| ?_
    exact Runs.iconst d0_496 ci_0 <| Runs.forget [false, false, false, false, false, false, true, false, false, false, false, true, true, true, true, false, false, false, false, false] rfl <| L_law_b497_p ob i11 i12 i13 i14 (t0 &&& t1) (0 : Int32) hf
def L_law_b642 (NF : Nat) (ob : Rec) (i10 : Int32) (i11 : Int32) (i12 : Int32) (i13 : Int32) (i14 : Int32) (t0 : Int32) (t1 : Int32) : Option (Int32) :=
  (X_value ob (2 : Int32)).bind fun r77 =>
  if r77 = ((i10 >>> ((2 : Int32) &&& 31)) &&& (1 : Int32)) then
    L_law_b670 NF ob ((t0 &&& t1) &&& (1 : Int32)) i11 i12 i13 i14
  else
    L_law_b670 NF ob ((t0 &&& t1) &&& (0 : Int32)) i11 i12 i13 i14
set_option maxRecDepth 65536 in
set_option maxHeartbeats 4000000 in
theorem L_law_b642_p {C : Ctx} {res : Int32} {NF : Nat} (ob : Rec) (i10 : Int32) (i11 : Int32) (i12 : Int32) (i13 : Int32) (i14 : Int32) (t0 : Int32) (t1 : Int32) (hf : L_law_b642 NF ob i10 i11 i12 i13 i14 t0 t1 = some res) : Runs C B0 18 318 642 [vn, vn, vn, vn, vn, vn, vr C.2.2.1, vn, vn, vn, vi i10, vi i11, vi i12, vi i13, vi i14, vn, vn, vn, vn, vn] [.int t1, .int t0] (C.2.2.1 + 1 + 17, (C.2.2.1, 17, ob) :: []) (fun v _ => v = (some (.int res))) := by
  delta L_law_b642 at hf
  refine Runs.iand d0_642 <| Runs.istore (P' := [vn, vn, vn, vn, vn, vn, vr C.2.2.1, vi (t0 &&& t1), vn, vn, vi i10, vi i11, vi i12, vi i13, vi i14, vn, vn, vn, vn, vn]) d0_643 (by decide) rfl <| Runs.iload d0_645 rfl <| Runs.aload d0_647 rfl <| Runs.iconst d0_649 ci_2 <| ?_
  refine bind_el hf fun r77 hg78 hf => ?_
  refine Runs.callV (N := B34) (W := 1) (as := [.int (2 : Int32)]) (S' := [.int (t0 &&& t1)]) d0_650 w216 w217 w218 w219 cw34 ar34 rk0_34_1 (by decide) rfl rfl (X_value_pay hg78) <| ans1 <| Runs.iload d0_653 rfl <| Runs.iconst d0_655 ci_2 <| Runs.ishr d0_656 <| Runs.iconst d0_657 ci_1 <| Runs.iand d0_658 <| ?_
  refine ite_el hf (fun hc79 hf => ?_) (fun hc79 hf => ?_)
  · refine Runs.icN d0_659 (teq hc79).2 <| ?_
    exact Runs.iconst d0_662 ci_1 <| Runs.goto (pc' := 667) d0_663 (by decide) <| Runs.iand d0_667 <| Runs.istore (P' := [vn, vn, vn, vn, vn, vn, vr C.2.2.1, vi ((t0 &&& t1) &&& (1 : Int32)), vn, vn, vi i10, vi i11, vi i12, vi i13, vi i14, vn, vn, vn, vn, vn]) d0_668 (by decide) rfl <| Runs.forget [false, false, false, false, false, false, true, true, false, false, false, true, true, true, true, false, false, false, false, false] rfl <| L_law_b670_p ob ((t0 &&& t1) &&& (1 : Int32)) i11 i12 i13 i14 hf
  · refine Runs.icY (pc' := 666) d0_659 (feq hc79).2 (by decide) <| ?_
    exact Runs.iconst d0_666 ci_0 <| Runs.iand d0_667 <| Runs.istore (P' := [vn, vn, vn, vn, vn, vn, vr C.2.2.1, vi ((t0 &&& t1) &&& (0 : Int32)), vn, vn, vi i10, vi i11, vi i12, vi i13, vi i14, vn, vn, vn, vn, vn]) d0_668 (by decide) rfl <| Runs.forget [false, false, false, false, false, false, true, true, false, false, false, true, true, true, true, false, false, false, false, false] rfl <| L_law_b670_p ob ((t0 &&& t1) &&& (0 : Int32)) i11 i12 i13 i14 hf
def L_law_b617 (NF : Nat) (ob : Rec) (i10 : Int32) (i11 : Int32) (i12 : Int32) (i13 : Int32) (i14 : Int32) (t0 : Int32) (t1 : Int32) : Option (Int32) :=
  (X_value ob (1 : Int32)).bind fun r74 =>
  if r74 = ((i10 >>> ((1 : Int32) &&& 31)) &&& (1 : Int32)) then
    L_law_b642 NF ob i10 i11 i12 i13 i14 (t0 &&& t1) (1 : Int32)
  else
    L_law_b642 NF ob i10 i11 i12 i13 i14 (t0 &&& t1) (0 : Int32)
set_option maxRecDepth 65536 in
set_option maxHeartbeats 4000000 in
theorem L_law_b617_p {C : Ctx} {res : Int32} {NF : Nat} (ob : Rec) (i10 : Int32) (i11 : Int32) (i12 : Int32) (i13 : Int32) (i14 : Int32) (t0 : Int32) (t1 : Int32) (hf : L_law_b617 NF ob i10 i11 i12 i13 i14 t0 t1 = some res) : Runs C B0 18 318 617 [vn, vn, vn, vn, vn, vn, vr C.2.2.1, vn, vn, vn, vi i10, vi i11, vi i12, vi i13, vi i14, vn, vn, vn, vn, vn] [.int t1, .int t0] (C.2.2.1 + 1 + 17, (C.2.2.1, 17, ob) :: []) (fun v _ => v = (some (.int res))) := by
  delta L_law_b617 at hf
  refine Runs.iand d0_617 <| Runs.istore (P' := [vn, vn, vn, vn, vn, vn, vr C.2.2.1, vi (t0 &&& t1), vn, vn, vi i10, vi i11, vi i12, vi i13, vi i14, vn, vn, vn, vn, vn]) d0_618 (by decide) rfl <| Runs.iload d0_620 rfl <| Runs.aload d0_622 rfl <| Runs.iconst d0_624 ci_1 <| ?_
  refine bind_el hf fun r74 hg75 hf => ?_
  refine Runs.callV (N := B34) (W := 1) (as := [.int (1 : Int32)]) (S' := [.int (t0 &&& t1)]) d0_625 w216 w217 w218 w219 cw34 ar34 rk0_34_1 (by decide) rfl rfl (X_value_pay hg75) <| ans1 <| Runs.iload d0_628 rfl <| Runs.iconst d0_630 ci_1 <| Runs.ishr d0_631 <| Runs.iconst d0_632 ci_1 <| Runs.iand d0_633 <| ?_
  refine ite_el hf (fun hc76 hf => ?_) (fun hc76 hf => ?_)
  · refine Runs.icN d0_634 (teq hc76).2 <| ?_
    exact Runs.iconst d0_637 ci_1 <| Runs.goto (pc' := 642) d0_638 (by decide) <| Runs.forget [false, false, false, false, false, false, true, false, false, false, true, true, true, true, true, false, false, false, false, false] rfl <| L_law_b642_p ob i10 i11 i12 i13 i14 (t0 &&& t1) (1 : Int32) hf
  · refine Runs.icY (pc' := 641) d0_634 (feq hc76).2 (by decide) <| ?_
    exact Runs.iconst d0_641 ci_0 <| Runs.forget [false, false, false, false, false, false, true, false, false, false, true, true, true, true, true, false, false, false, false, false] rfl <| L_law_b642_p ob i10 i11 i12 i13 i14 (t0 &&& t1) (0 : Int32) hf
def L_law_b594 (NF : Nat) (ob : Rec) (i10 : Int32) (i11 : Int32) (i12 : Int32) (i13 : Int32) (i14 : Int32) (t0 : Int32) (t1 : Int32) : Option (Int32) :=
  (X_value ob (0 : Int32)).bind fun r71 =>
  if r71 = (i10 &&& (1 : Int32)) then
    L_law_b617 NF ob i10 i11 i12 i13 i14 (t0 &&& t1) (1 : Int32)
  else
    L_law_b617 NF ob i10 i11 i12 i13 i14 (t0 &&& t1) (0 : Int32)
set_option maxRecDepth 65536 in
set_option maxHeartbeats 4000000 in
theorem L_law_b594_p {C : Ctx} {res : Int32} {NF : Nat} (ob : Rec) (i10 : Int32) (i11 : Int32) (i12 : Int32) (i13 : Int32) (i14 : Int32) (t0 : Int32) (t1 : Int32) (hf : L_law_b594 NF ob i10 i11 i12 i13 i14 t0 t1 = some res) : Runs C B0 18 318 594 [vn, vn, vn, vn, vn, vn, vr C.2.2.1, vn, vn, vn, vi i10, vi i11, vi i12, vi i13, vi i14, vn, vn, vn, vn, vn] [.int t1, .int t0] (C.2.2.1 + 1 + 17, (C.2.2.1, 17, ob) :: []) (fun v _ => v = (some (.int res))) := by
  delta L_law_b594 at hf
  refine Runs.iand d0_594 <| Runs.istore (P' := [vn, vn, vn, vn, vn, vn, vr C.2.2.1, vi (t0 &&& t1), vn, vn, vi i10, vi i11, vi i12, vi i13, vi i14, vn, vn, vn, vn, vn]) d0_595 (by decide) rfl <| Runs.iload d0_597 rfl <| Runs.aload d0_599 rfl <| Runs.iconst d0_601 ci_0 <| ?_
  refine bind_el hf fun r71 hg72 hf => ?_
  refine Runs.callV (N := B34) (W := 1) (as := [.int (0 : Int32)]) (S' := [.int (t0 &&& t1)]) d0_602 w216 w217 w218 w219 cw34 ar34 rk0_34_1 (by decide) rfl rfl (X_value_pay hg72) <| ans1 <| Runs.iload d0_605 rfl <| Runs.iconst d0_607 ci_1 <| Runs.iand d0_608 <| ?_
  refine ite_el hf (fun hc73 hf => ?_) (fun hc73 hf => ?_)
  · refine Runs.icN d0_609 (teq hc73).2 <| ?_
    exact Runs.iconst d0_612 ci_1 <| Runs.goto (pc' := 617) d0_613 (by decide) <| Runs.forget [false, false, false, false, false, false, true, false, false, false, true, true, true, true, true, false, false, false, false, false] rfl <| L_law_b617_p ob i10 i11 i12 i13 i14 (t0 &&& t1) (1 : Int32) hf
  · refine Runs.icY (pc' := 616) d0_609 (feq hc73).2 (by decide) <| ?_
    exact Runs.iconst d0_616 ci_0 <| Runs.forget [false, false, false, false, false, false, true, false, false, false, true, true, true, true, true, false, false, false, false, false] rfl <| L_law_b617_p ob i10 i11 i12 i13 i14 (t0 &&& t1) (0 : Int32) hf
def L_law_b574 (NF : Nat) (ob : Rec) (i10 : Int32) (i11 : Int32) (i12 : Int32) (i13 : Int32) (i14 : Int32) (t0 : Int32) (t1 : Int32) : Option (Int32) :=
  (X_modelBits ob).bind fun r68 =>
  if r68 = i10 then
    L_law_b594 NF ob i10 i11 i12 i13 i14 (t0 &&& t1) (1 : Int32)
  else
    L_law_b594 NF ob i10 i11 i12 i13 i14 (t0 &&& t1) (0 : Int32)
set_option maxRecDepth 65536 in
set_option maxHeartbeats 4000000 in
theorem L_law_b574_p {C : Ctx} {res : Int32} {NF : Nat} (ob : Rec) (i10 : Int32) (i11 : Int32) (i12 : Int32) (i13 : Int32) (i14 : Int32) (t0 : Int32) (t1 : Int32) (hf : L_law_b574 NF ob i10 i11 i12 i13 i14 t0 t1 = some res) : Runs C B0 18 318 574 [vn, vn, vn, vn, vn, vn, vr C.2.2.1, vn, vn, vn, vi i10, vi i11, vi i12, vi i13, vi i14, vn, vn, vn, vn, vn] [.int t1, .int t0] (C.2.2.1 + 1 + 17, (C.2.2.1, 17, ob) :: []) (fun v _ => v = (some (.int res))) := by
  delta L_law_b574 at hf
  refine Runs.iand d0_574 <| Runs.istore (P' := [vn, vn, vn, vn, vn, vn, vr C.2.2.1, vi (t0 &&& t1), vn, vn, vi i10, vi i11, vi i12, vi i13, vi i14, vn, vn, vn, vn, vn]) d0_575 (by decide) rfl <| Runs.iload d0_577 rfl <| Runs.aload d0_579 rfl <| ?_
  refine bind_el hf fun r68 hg69 hf => ?_
  refine Runs.callV (N := B33) (W := 1) (as := []) (S' := [.int (t0 &&& t1)]) d0_581 w211 w212 w213 w214 cw33 ar33 rk0_33_1 (by decide) rfl rfl (X_modelBits_pay hg69) <| ans1 <| Runs.iload d0_584 rfl <| ?_
  refine ite_el hf (fun hc70 hf => ?_) (fun hc70 hf => ?_)
  · refine Runs.icN d0_586 (teq hc70).2 <| ?_
    exact Runs.iconst d0_589 ci_1 <| Runs.goto (pc' := 594) d0_590 (by decide) <| Runs.forget [false, false, false, false, false, false, true, false, false, false, true, true, true, true, true, false, false, false, false, false] rfl <| L_law_b594_p ob i10 i11 i12 i13 i14 (t0 &&& t1) (1 : Int32) hf
  · refine Runs.icY (pc' := 593) d0_586 (feq hc70).2 (by decide) <| ?_
    exact Runs.iconst d0_593 ci_0 <| Runs.forget [false, false, false, false, false, false, true, false, false, false, true, true, true, true, true, false, false, false, false, false] rfl <| L_law_b594_p ob i10 i11 i12 i13 i14 (t0 &&& t1) (0 : Int32) hf
def L_law_b555 (NF : Nat) (ob : Rec) (i10 : Int32) (i11 : Int32) (i12 : Int32) (i13 : Int32) (i14 : Int32) (t0 : Int32) (t1 : Int32) : Option (Int32) :=
  (X_status ob).bind fun r65 =>
  if r65 = (1 : Int32) then
    L_law_b574 NF ob i10 i11 i12 i13 i14 (t0 &&& t1) (1 : Int32)
  else
    L_law_b574 NF ob i10 i11 i12 i13 i14 (t0 &&& t1) (0 : Int32)
set_option maxRecDepth 65536 in
set_option maxHeartbeats 4000000 in
theorem L_law_b555_p {C : Ctx} {res : Int32} {NF : Nat} (ob : Rec) (i10 : Int32) (i11 : Int32) (i12 : Int32) (i13 : Int32) (i14 : Int32) (t0 : Int32) (t1 : Int32) (hf : L_law_b555 NF ob i10 i11 i12 i13 i14 t0 t1 = some res) : Runs C B0 18 318 555 [vn, vn, vn, vn, vn, vn, vr C.2.2.1, vn, vn, vn, vi i10, vi i11, vi i12, vi i13, vi i14, vn, vn, vn, vn, vn] [.int t1, .int t0] (C.2.2.1 + 1 + 17, (C.2.2.1, 17, ob) :: []) (fun v _ => v = (some (.int res))) := by
  delta L_law_b555 at hf
  refine Runs.iand d0_555 <| Runs.istore (P' := [vn, vn, vn, vn, vn, vn, vr C.2.2.1, vi (t0 &&& t1), vn, vn, vi i10, vi i11, vi i12, vi i13, vi i14, vn, vn, vn, vn, vn]) d0_556 (by decide) rfl <| Runs.iload d0_558 rfl <| Runs.aload d0_560 rfl <| ?_
  refine bind_el hf fun r65 hg66 hf => ?_
  refine Runs.callV (N := B32) (W := 1) (as := []) (S' := [.int (t0 &&& t1)]) d0_562 w206 w207 w208 w209 cw32 ar32 rk0_32_1 (by decide) rfl rfl (X_status_pay hg66) <| ans1 <| Runs.iconst d0_565 ci_1 <| ?_
  refine ite_el hf (fun hc67 hf => ?_) (fun hc67 hf => ?_)
  · refine Runs.icN d0_566 (teq hc67).2 <| ?_
    exact Runs.iconst d0_569 ci_1 <| Runs.goto (pc' := 574) d0_570 (by decide) <| Runs.forget [false, false, false, false, false, false, true, false, false, false, true, true, true, true, true, false, false, false, false, false] rfl <| L_law_b574_p ob i10 i11 i12 i13 i14 (t0 &&& t1) (1 : Int32) hf
  · refine Runs.icY (pc' := 573) d0_566 (feq hc67).2 (by decide) <| ?_
    exact Runs.iconst d0_573 ci_0 <| Runs.forget [false, false, false, false, false, false, true, false, false, false, true, true, true, true, true, false, false, false, false, false] rfl <| L_law_b574_p ob i10 i11 i12 i13 i14 (t0 &&& t1) (0 : Int32) hf
def L_law_w290 (NF : Nat) (k290 : Rec → Int32 → Int32 → Int32 → Int32 → Int32 → Int32 → Int32 → Int32 → Int32 → Int32 → Int32 → Int32 → Int32 → Int32 → Int32 → Option (Int32)) (ob : Rec) (i0 : Int32) (i1 : Int32) (i2 : Int32) (i3 : Int32) (i4 : Int32) (i5 : Int32) (i7 : Int32) (i8 : Int32) (i9 : Int32) (i10 : Int32) (i11 : Int32) (i12 : Int32) (i13 : Int32) (i14 : Int32) (i15 : Int32) : Option (Int32) :=
  if i15 < (8 : Int32) then
    if (((((((((i15 >>> ((2 : Int32) &&& 31)) &&& (1 : Int32)) ||| (i15 &&& (2 : Int32))) ||| ((i15 &&& (1 : Int32)) <<< ((2 : Int32) &&& 31))) ^^^ i0) &&& (7 : Int32)) ^^^ (((((((i15 >>> ((2 : Int32) &&& 31)) &&& (1 : Int32)) ||| (i15 &&& (2 : Int32))) ||| ((i15 &&& (1 : Int32)) <<< ((2 : Int32) &&& 31))) ^^^ i0) &&& (7 : Int32)) >>> ((1 : Int32) &&& 31))) ^^^ (((((((i15 >>> ((2 : Int32) &&& 31)) &&& (1 : Int32)) ||| (i15 &&& (2 : Int32))) ||| ((i15 &&& (1 : Int32)) <<< ((2 : Int32) &&& 31))) ^^^ i0) &&& (7 : Int32)) >>> ((2 : Int32) &&& 31))) &&& (1 : Int32)) = (i1 &&& (1 : Int32)) then
      L_law_b351 NF k290 ob i0 i1 i2 i3 i4 i5 i7 i8 i9 i10 i11 i12 i13 i14 i15 ((((i15 >>> ((2 : Int32) &&& 31)) &&& (1 : Int32)) ||| (i15 &&& (2 : Int32))) ||| ((i15 &&& (1 : Int32)) <<< ((2 : Int32) &&& 31))) (1 : Int32)
    else
      L_law_b351 NF k290 ob i0 i1 i2 i3 i4 i5 i7 i8 i9 i10 i11 i12 i13 i14 i15 ((((i15 >>> ((2 : Int32) &&& 31)) &&& (1 : Int32)) ||| (i15 &&& (2 : Int32))) ||| ((i15 &&& (1 : Int32)) <<< ((2 : Int32) &&& 31))) (0 : Int32)
  else
    bind2 (X_solve NF ob) fun r43 q44 =>
    if i10 < (0 : Int32) then
      if r43 = (0 : Int32) then
        L_law_b479 NF q44 i11 i12 i13 i14 i7 (1 : Int32)
      else
        L_law_b479 NF q44 i11 i12 i13 i14 i7 (0 : Int32)
    else
      if r43 = (1 : Int32) then
        L_law_b555 NF q44 i10 i11 i12 i13 i14 i7 (1 : Int32)
      else
        L_law_b555 NF q44 i10 i11 i12 i13 i14 i7 (0 : Int32)
def L_law_l290 (NF : Nat) : Nat → Rec → Int32 → Int32 → Int32 → Int32 → Int32 → Int32 → Int32 → Int32 → Int32 → Int32 → Int32 → Int32 → Int32 → Int32 → Int32 → Option (Int32)
  | 0, _, _, _, _, _, _, _, _, _, _, _, _, _, _, _, _ => none
  | n + 1, ob, i0, i1, i2, i3, i4, i5, i7, i8, i9, i10, i11, i12, i13, i14, i15 => L_law_w290 NF (L_law_l290 NF n) ob i0 i1 i2 i3 i4 i5 i7 i8 i9 i10 i11 i12 i13 i14 i15
set_option maxRecDepth 65536 in
set_option maxHeartbeats 4000000 in
theorem L_law_w290_p {C : Ctx} {res : Int32} {NF : Nat} (k290 : Rec → Int32 → Int32 → Int32 → Int32 → Int32 → Int32 → Int32 → Int32 → Int32 → Int32 → Int32 → Int32 → Int32 → Int32 → Int32 → Option (Int32)) (hk290 : ∀ (ob : Rec) (i0 : Int32) (i1 : Int32) (i2 : Int32) (i3 : Int32) (i4 : Int32) (i5 : Int32) (i7 : Int32) (i8 : Int32) (i9 : Int32) (i10 : Int32) (i11 : Int32) (i12 : Int32) (i13 : Int32) (i14 : Int32) (i15 : Int32), k290 ob i0 i1 i2 i3 i4 i5 i7 i8 i9 i10 i11 i12 i13 i14 i15 = some res → Runs C B0 18 318 290 [vi i0, vi i1, vi i2, vi i3, vi i4, vi i5, vr C.2.2.1, vi i7, vi i8, vi i9, vi i10, vi i11, vi i12, vi i13, vi i14, vi i15, vn, vn, vn, vn] [] (C.2.2.1 + 1 + 17, (C.2.2.1, 17, ob) :: []) (fun v _ => v = (some (.int res)))) (ob : Rec) (i0 : Int32) (i1 : Int32) (i2 : Int32) (i3 : Int32) (i4 : Int32) (i5 : Int32) (i7 : Int32) (i8 : Int32) (i9 : Int32) (i10 : Int32) (i11 : Int32) (i12 : Int32) (i13 : Int32) (i14 : Int32) (i15 : Int32) (hf : L_law_w290 NF k290 ob i0 i1 i2 i3 i4 i5 i7 i8 i9 i10 i11 i12 i13 i14 i15 = some res) : Runs C B0 18 318 290 [vi i0, vi i1, vi i2, vi i3, vi i4, vi i5, vr C.2.2.1, vi i7, vi i8, vi i9, vi i10, vi i11, vi i12, vi i13, vi i14, vi i15, vn, vn, vn, vn] [] (C.2.2.1 + 1 + 17, (C.2.2.1, 17, ob) :: []) (fun v _ => v = (some (.int res))) := by
  delta L_law_w290 at hf
  refine Runs.iload d0_290 rfl <| Runs.bipush d0_292 cb_8 <| ?_
  refine ite_el hf (fun hc41 hf => ?_) (fun hc41 hf => ?_)
  · refine Runs.icN d0_294 (tlt hc41).2.1 <| ?_
    refine Runs.iload d0_297 rfl <| Runs.iconst d0_299 ci_2 <| Runs.ishr d0_300 <| Runs.iconst d0_301 ci_1 <| Runs.iand d0_302 <| Runs.iload d0_303 rfl <| Runs.iconst d0_305 ci_2 <| Runs.iand d0_306 <| Runs.ior d0_307 <| Runs.iload d0_308 rfl <| Runs.iconst d0_310 ci_1 <| Runs.iand d0_311 <| ?_
    refine Runs.iconst d0_312 ci_2 <| Runs.ishl d0_313 <| Runs.ior d0_314 <| Runs.istore (P' := [vi i0, vi i1, vi i2, vi i3, vi i4, vi i5, vr C.2.2.1, vi i7, vi i8, vi i9, vi i10, vi i11, vi i12, vi i13, vi i14, vi i15, vi ((((i15 >>> ((2 : Int32) &&& 31)) &&& (1 : Int32)) ||| (i15 &&& (2 : Int32))) ||| ((i15 &&& (1 : Int32)) <<< ((2 : Int32) &&& 31))), vn, vn, vn]) d0_315 (by decide) rfl <| Runs.iload d0_317 rfl <| Runs.iloadN d0_319 rfl <| Runs.ixor d0_320 <| Runs.bipush d0_321 cb_7 <| Runs.iand d0_323 <| Runs.istore (P' := [vi i0, vi i1, vi i2, vi i3, vi i4, vi i5, vr C.2.2.1, vi i7, vi i8, vi i9, vi i10, vi i11, vi i12, vi i13, vi i14, vi i15, vi ((((i15 >>> ((2 : Int32) &&& 31)) &&& (1 : Int32)) ||| (i15 &&& (2 : Int32))) ||| ((i15 &&& (1 : Int32)) <<< ((2 : Int32) &&& 31))), vi ((((((i15 >>> ((2 : Int32) &&& 31)) &&& (1 : Int32)) ||| (i15 &&& (2 : Int32))) ||| ((i15 &&& (1 : Int32)) <<< ((2 : Int32) &&& 31))) ^^^ i0) &&& (7 : Int32)), vn, vn]) d0_324 (by decide) rfl <| Runs.iload d0_326 rfl <| Runs.iload d0_328 rfl <| ?_
    refine Runs.iconst d0_330 ci_1 <| Runs.ishr d0_331 <| Runs.ixor d0_332 <| Runs.iload d0_333 rfl <| Runs.iconst d0_335 ci_2 <| Runs.ishr d0_336 <| Runs.ixor d0_337 <| Runs.iconst d0_338 ci_1 <| Runs.iand d0_339 <| Runs.iloadN d0_340 rfl <| Runs.iconst d0_341 ci_1 <| Runs.iand d0_342 <| ?_
    refine ite_el hf (fun hc42 hf => ?_) (fun hc42 hf => ?_)
    · refine Runs.icN d0_343 (teq hc42).2 <| ?_
      exact Runs.iconst d0_346 ci_1 <| Runs.goto (pc' := 351) d0_347 (by decide) <| Runs.forget [true, true, true, true, true, true, true, true, true, true, true, true, true, true, true, true, true, false, false, false] rfl <| L_law_b351_p k290 hk290 ob i0 i1 i2 i3 i4 i5 i7 i8 i9 i10 i11 i12 i13 i14 i15 ((((i15 >>> ((2 : Int32) &&& 31)) &&& (1 : Int32)) ||| (i15 &&& (2 : Int32))) ||| ((i15 &&& (1 : Int32)) <<< ((2 : Int32) &&& 31))) (1 : Int32) hf
    · refine Runs.icY (pc' := 350) d0_343 (feq hc42).2 (by decide) <| ?_
      exact Runs.iconst d0_350 ci_0 <| Runs.forget [true, true, true, true, true, true, true, true, true, true, true, true, true, true, true, true, true, false, false, false] rfl <| L_law_b351_p k290 hk290 ob i0 i1 i2 i3 i4 i5 i7 i8 i9 i10 i11 i12 i13 i14 i15 ((((i15 >>> ((2 : Int32) &&& 31)) &&& (1 : Int32)) ||| (i15 &&& (2 : Int32))) ||| ((i15 &&& (1 : Int32)) <<< ((2 : Int32) &&& 31))) (0 : Int32) hf
  · refine Runs.icY (pc' := 455) d0_294 (flt hc41).2.1 (by decide) <| ?_
    refine Runs.aload d0_455 rfl <| ?_
    refine bind2_el hf fun r43 q44 hg45 hf => ?_
    refine Runs.callV (N := B9) (W := 0) (as := []) (S' := []) d0_457 w98 w99 w100 w101 cw9 ar9 rk0_9_0 (by decide) rfl rfl (X_solve_pay hg45) <| ans1 <| Runs.istore (P' := [vi i0, vi i1, vi i2, vi i3, vi i4, vi i5, vr C.2.2.1, vi i7, vi i8, vi i9, vi i10, vi i11, vi i12, vi i13, vi i14, vi r43, vn, vn, vn, vn]) d0_460 (by decide) rfl <| Runs.iload d0_462 rfl <| ?_
    refine ite_el hf (fun hc46 hf => ?_) (fun hc46 hf => ?_)
    · refine Runs.ifN d0_464 (tlt hc46).2.1 <| ?_
      refine Runs.iload d0_467 rfl <| Runs.iload d0_469 rfl <| ?_
      refine ite_el hf (fun hc47 hf => ?_) (fun hc47 hf => ?_)
      · refine Runs.ifN d0_471 (teq hc47).2 <| ?_
        exact Runs.iconst d0_474 ci_1 <| Runs.goto (pc' := 479) d0_475 (by decide) <| Runs.forget [false, false, false, false, false, false, true, false, false, false, false, true, true, true, true, false, false, false, false, false] rfl <| L_law_b479_p q44 i11 i12 i13 i14 i7 (1 : Int32) hf
      · refine Runs.ifY (pc' := 478) d0_471 (feq hc47).2 (by decide) <| ?_
        exact Runs.iconst d0_478 ci_0 <| Runs.forget [false, false, false, false, false, false, true, false, false, false, false, true, true, true, true, false, false, false, false, false] rfl <| L_law_b479_p q44 i11 i12 i13 i14 i7 (0 : Int32) hf
    · refine Runs.ifY (pc' := 542) d0_464 (flt hc46).2.1 (by decide) <| ?_
      refine Runs.iload d0_542 rfl <| Runs.iload d0_544 rfl <| Runs.iconst d0_546 ci_1 <| ?_
      refine ite_el hf (fun hc48 hf => ?_) (fun hc48 hf => ?_)
      · refine Runs.icN d0_547 (teq hc48).2 <| ?_
        exact Runs.iconst d0_550 ci_1 <| Runs.goto (pc' := 555) d0_551 (by decide) <| Runs.forget [false, false, false, false, false, false, true, false, false, false, true, true, true, true, true, false, false, false, false, false] rfl <| L_law_b555_p q44 i10 i11 i12 i13 i14 i7 (1 : Int32) hf
      · refine Runs.icY (pc' := 554) d0_547 (feq hc48).2 (by decide) <| ?_
        exact Runs.iconst d0_554 ci_0 <| Runs.forget [false, false, false, false, false, false, true, false, false, false, true, true, true, true, true, false, false, false, false, false] rfl <| L_law_b555_p q44 i10 i11 i12 i13 i14 i7 (0 : Int32) hf
theorem L_law_l290_p {C : Ctx} {res : Int32} {NF : Nat} (n : Nat) (ob : Rec) (i0 : Int32) (i1 : Int32) (i2 : Int32) (i3 : Int32) (i4 : Int32) (i5 : Int32) (i7 : Int32) (i8 : Int32) (i9 : Int32) (i10 : Int32) (i11 : Int32) (i12 : Int32) (i13 : Int32) (i14 : Int32) (i15 : Int32) (hf : L_law_l290 NF n ob i0 i1 i2 i3 i4 i5 i7 i8 i9 i10 i11 i12 i13 i14 i15 = some res) : Runs C B0 18 318 290 [vi i0, vi i1, vi i2, vi i3, vi i4, vi i5, vr C.2.2.1, vi i7, vi i8, vi i9, vi i10, vi i11, vi i12, vi i13, vi i14, vi i15, vn, vn, vn, vn] [] (C.2.2.1 + 1 + 17, (C.2.2.1, 17, ob) :: []) (fun v _ => v = (some (.int res))) := by
  induction n generalizing ob i0 i1 i2 i3 i4 i5 i7 i8 i9 i10 i11 i12 i13 i14 i15 with
  | zero => cases (show (none : Option (Int32)) = some res from hf)
  | succ n ih => exact L_law_w290_p (L_law_l290 NF n) (fun ob i0 i1 i2 i3 i4 i5 i7 i8 i9 i10 i11 i12 i13 i14 i15 h => ih _ _ _ _ _ _ _ _ _ _ _ _ _ _ _ _ h) ob i0 i1 i2 i3 i4 i5 i7 i8 i9 i10 i11 i12 i13 i14 i15 hf
def L_law_b269 (NF : Nat) (ob : Rec) (i0 : Int32) (i1 : Int32) (i2 : Int32) (i3 : Int32) (i4 : Int32) (i5 : Int32) (i8 : Int32) (i9 : Int32) (t0 : Int32) (t1 : Int32) : Option (Int32) :=
  L_law_l290 NF NF ob i0 i1 i2 i3 i4 i5 (t0 &&& t1) i8 i9 (-1 : Int32) (0 : Int32) (0 : Int32) (0 : Int32) (0 : Int32) (0 : Int32)
set_option maxRecDepth 65536 in
set_option maxHeartbeats 4000000 in
theorem L_law_b269_p {C : Ctx} {res : Int32} {NF : Nat} (ob : Rec) (i0 : Int32) (i1 : Int32) (i2 : Int32) (i3 : Int32) (i4 : Int32) (i5 : Int32) (i8 : Int32) (i9 : Int32) (t0 : Int32) (t1 : Int32) (hf : L_law_b269 NF ob i0 i1 i2 i3 i4 i5 i8 i9 t0 t1 = some res) : Runs C B0 18 318 269 [vi i0, vi i1, vi i2, vi i3, vi i4, vi i5, vr C.2.2.1, vn, vi i8, vi i9, vn, vn, vn, vn, vn, vn, vn, vn, vn, vn] [.int t1, .int t0] (C.2.2.1 + 1 + 17, (C.2.2.1, 17, ob) :: []) (fun v _ => v = (some (.int res))) := by
  delta L_law_b269 at hf
  refine Runs.iand d0_269 <| Runs.istore (P' := [vi i0, vi i1, vi i2, vi i3, vi i4, vi i5, vr C.2.2.1, vi (t0 &&& t1), vi i8, vi i9, vn, vn, vn, vn, vn, vn, vn, vn, vn, vn]) d0_270 (by decide) rfl <| Runs.iconst d0_272 ci_m1 <| Runs.istore (P' := [vi i0, vi i1, vi i2, vi i3, vi i4, vi i5, vr C.2.2.1, vi (t0 &&& t1), vi i8, vi i9, vi (-1 : Int32), vn, vn, vn, vn, vn, vn, vn, vn, vn]) d0_273 (by decide) rfl <| Runs.iconst d0_275 ci_0 <| Runs.istore (P' := [vi i0, vi i1, vi i2, vi i3, vi i4, vi i5, vr C.2.2.1, vi (t0 &&& t1), vi i8, vi i9, vi (-1 : Int32), vi (0 : Int32), vn, vn, vn, vn, vn, vn, vn, vn]) d0_276 (by decide) rfl <| Runs.iconst d0_278 ci_0 <| Runs.istore (P' := [vi i0, vi i1, vi i2, vi i3, vi i4, vi i5, vr C.2.2.1, vi (t0 &&& t1), vi i8, vi i9, vi (-1 : Int32), vi (0 : Int32), vi (0 : Int32), vn, vn, vn, vn, vn, vn, vn]) d0_279 (by decide) rfl <| Runs.iconst d0_281 ci_0 <| Runs.istore (P' := [vi i0, vi i1, vi i2, vi i3, vi i4, vi i5, vr C.2.2.1, vi (t0 &&& t1), vi i8, vi i9, vi (-1 : Int32), vi (0 : Int32), vi (0 : Int32), vi (0 : Int32), vn, vn, vn, vn, vn, vn]) d0_282 (by decide) rfl <| Runs.iconst d0_284 ci_0 <| Runs.istore (P' := [vi i0, vi i1, vi i2, vi i3, vi i4, vi i5, vr C.2.2.1, vi (t0 &&& t1), vi i8, vi i9, vi (-1 : Int32), vi (0 : Int32), vi (0 : Int32), vi (0 : Int32), vi (0 : Int32), vn, vn, vn, vn, vn]) d0_285 (by decide) rfl <| ?_
  exact Runs.iconst d0_287 ci_0 <| Runs.istore (P' := [vi i0, vi i1, vi i2, vi i3, vi i4, vi i5, vr C.2.2.1, vi (t0 &&& t1), vi i8, vi i9, vi (-1 : Int32), vi (0 : Int32), vi (0 : Int32), vi (0 : Int32), vi (0 : Int32), vi (0 : Int32), vn, vn, vn, vn]) d0_288 (by decide) rfl <| L_law_l290_p NF ob i0 i1 i2 i3 i4 i5 (t0 &&& t1) i8 i9 (-1 : Int32) (0 : Int32) (0 : Int32) (0 : Int32) (0 : Int32) (0 : Int32) hf
def L_law_b251 (NF : Nat) (ob : Rec) (i0 : Int32) (i1 : Int32) (i2 : Int32) (i3 : Int32) (i4 : Int32) (i5 : Int32) (i8 : Int32) (i9 : Int32) (t0 : Int32) (t1 : Int32) : Option (Int32) :=
  bind2 (X_commitClause NF ob) fun r37 q38 =>
  if r37 = (0 : Int32) then
    L_law_b269 NF q38 i0 i1 i2 i3 i4 i5 i8 i9 (t0 &&& t1) (1 : Int32)
  else
    L_law_b269 NF q38 i0 i1 i2 i3 i4 i5 i8 i9 (t0 &&& t1) (0 : Int32)
set_option maxRecDepth 65536 in
set_option maxHeartbeats 4000000 in
theorem L_law_b251_p {C : Ctx} {res : Int32} {NF : Nat} (ob : Rec) (i0 : Int32) (i1 : Int32) (i2 : Int32) (i3 : Int32) (i4 : Int32) (i5 : Int32) (i8 : Int32) (i9 : Int32) (t0 : Int32) (t1 : Int32) (hf : L_law_b251 NF ob i0 i1 i2 i3 i4 i5 i8 i9 t0 t1 = some res) : Runs C B0 18 318 251 [vi i0, vi i1, vi i2, vi i3, vi i4, vi i5, vr C.2.2.1, vn, vi i8, vi i9, vn, vn, vn, vn, vn, vn, vn, vn, vn, vn] [.int t1, .int t0] (C.2.2.1 + 1 + 17, (C.2.2.1, 17, ob) :: []) (fun v _ => v = (some (.int res))) := by
  delta L_law_b251 at hf
  refine Runs.iand d0_251 <| Runs.istore (P' := [vi i0, vi i1, vi i2, vi i3, vi i4, vi i5, vr C.2.2.1, vi (t0 &&& t1), vi i8, vi i9, vn, vn, vn, vn, vn, vn, vn, vn, vn, vn]) d0_252 (by decide) rfl <| Runs.iload d0_254 rfl <| Runs.aload d0_256 rfl <| ?_
  refine bind2_el hf fun r37 q38 hg39 hf => ?_
  refine Runs.callV (N := B7) (W := 1) (as := []) (S' := [.int (t0 &&& t1)]) d0_258 w89 w90 w91 w92 cw7 ar7 rk0_7_1 (by decide) rfl rfl (X_commitClause_pay hg39) <| ans1 <| ?_
  refine ite_el hf (fun hc40 hf => ?_) (fun hc40 hf => ?_)
  · refine Runs.ifN d0_261 (teq hc40).2 <| ?_
    exact Runs.iconst d0_264 ci_1 <| Runs.goto (pc' := 269) d0_265 (by decide) <| Runs.forget [true, true, true, true, true, true, true, false, true, true, false, false, false, false, false, false, false, false, false, false] rfl <| L_law_b269_p q38 i0 i1 i2 i3 i4 i5 i8 i9 (t0 &&& t1) (1 : Int32) hf
  · refine Runs.ifY (pc' := 268) d0_261 (feq hc40).2 (by decide) <| ?_
    exact Runs.iconst d0_268 ci_0 <| Runs.forget [true, true, true, true, true, true, true, false, true, true, false, false, false, false, false, false, false, false, false, false] rfl <| L_law_b269_p q38 i0 i1 i2 i3 i4 i5 i8 i9 (t0 &&& t1) (0 : Int32) hf
def L_law_b243 (NF : Nat) (ob : Rec) (i0 : Int32) (i1 : Int32) (i2 : Int32) (i3 : Int32) (i4 : Int32) (i5 : Int32) (i8 : Int32) (i9 : Int32) (t0 : Int32) (t1 : Int32) (t2 : Int32) : Option (Int32) :=
  if t1 = t2 then
    L_law_b251 NF ob i0 i1 i2 i3 i4 i5 i8 i9 t0 (1 : Int32)
  else
    L_law_b251 NF ob i0 i1 i2 i3 i4 i5 i8 i9 t0 (0 : Int32)
set_option maxRecDepth 65536 in
set_option maxHeartbeats 4000000 in
theorem L_law_b243_p {C : Ctx} {res : Int32} {NF : Nat} (ob : Rec) (i0 : Int32) (i1 : Int32) (i2 : Int32) (i3 : Int32) (i4 : Int32) (i5 : Int32) (i8 : Int32) (i9 : Int32) (t0 : Int32) (t1 : Int32) (t2 : Int32) (hf : L_law_b243 NF ob i0 i1 i2 i3 i4 i5 i8 i9 t0 t1 t2 = some res) : Runs C B0 18 318 243 [vi i0, vi i1, vi i2, vi i3, vi i4, vi i5, vr C.2.2.1, vn, vi i8, vi i9, vn, vn, vn, vn, vn, vn, vn, vn, vn, vn] [.int t2, .int t1, .int t0] (C.2.2.1 + 1 + 17, (C.2.2.1, 17, ob) :: []) (fun v _ => v = (some (.int res))) := by
  delta L_law_b243 at hf
  refine ite_el hf (fun hc36 hf => ?_) (fun hc36 hf => ?_)
  · refine Runs.icN d0_243 (teq hc36).2 <| ?_
    exact Runs.iconst d0_246 ci_1 <| Runs.goto (pc' := 251) d0_247 (by decide) <| L_law_b251_p ob i0 i1 i2 i3 i4 i5 i8 i9 t0 (1 : Int32) hf
  · refine Runs.icY (pc' := 250) d0_243 (feq hc36).2 (by decide) <| ?_
    exact Runs.iconst d0_250 ci_0 <| L_law_b251_p ob i0 i1 i2 i3 i4 i5 i8 i9 t0 (0 : Int32) hf
def L_law_b221 (NF : Nat) (ob : Rec) (i0 : Int32) (i1 : Int32) (i2 : Int32) (i3 : Int32) (i4 : Int32) (i5 : Int32) (i8 : Int32) (i9 : Int32) (t0 : Int32) (t2 : Int32) (t3 : Int32) : Option (Int32) :=
  bind2 (X_addLiteral ob t2 t3) fun r31 q32 =>
  if i9 = (0 : Int32) then
    L_law_b243 NF q32 i0 i1 i2 i3 i4 i5 i8 i9 t0 r31 (-1 : Int32)
  else
    if i8 = (0 : Int32) then
      L_law_b243 NF q32 i0 i1 i2 i3 i4 i5 i8 i9 t0 r31 (1 : Int32)
    else
      L_law_b243 NF q32 i0 i1 i2 i3 i4 i5 i8 i9 t0 r31 (2 : Int32)
set_option maxRecDepth 65536 in
set_option maxHeartbeats 4000000 in
theorem L_law_b221_p {C : Ctx} {res : Int32} {NF : Nat} (ob : Rec) (i0 : Int32) (i1 : Int32) (i2 : Int32) (i3 : Int32) (i4 : Int32) (i5 : Int32) (i8 : Int32) (i9 : Int32) (t0 : Int32) (t2 : Int32) (t3 : Int32) (hf : L_law_b221 NF ob i0 i1 i2 i3 i4 i5 i8 i9 t0 t2 t3 = some res) : Runs C B0 18 318 221 [vi i0, vi i1, vi i2, vi i3, vi i4, vi i5, vr C.2.2.1, vn, vi i8, vi i9, vn, vn, vn, vn, vn, vn, vn, vn, vn, vn] [.int t3, .int t2, .ref C.2.2.1, .int t0] (C.2.2.1 + 1 + 17, (C.2.2.1, 17, ob) :: []) (fun v _ => v = (some (.int res))) := by
  delta L_law_b221 at hf
  refine bind2_el hf fun r31 q32 hg33 hf => ?_
  refine Runs.callV (N := B2) (W := 1) (as := [.int t2, .int t3]) (S' := [.int t0]) d0_221 w67 w68 w69 w70 cw2 ar2 rk0_2_1 (by decide) rfl rfl (X_addLiteral_pay hg33) <| ans1 <| Runs.iload d0_224 rfl <| ?_
  refine ite_el hf (fun hc34 hf => ?_) (fun hc34 hf => ?_)
  · refine Runs.ifY (pc' := 242) d0_226 (teq hc34).1 (by decide) <| ?_
    exact Runs.iconst d0_242 ci_m1 <| L_law_b243_p q32 i0 i1 i2 i3 i4 i5 i8 i9 t0 r31 (-1 : Int32) hf
  · refine Runs.ifN d0_226 (feq hc34).1 <| ?_
    refine Runs.iload d0_229 rfl <| ?_
    refine ite_el hf (fun hc35 hf => ?_) (fun hc35 hf => ?_)
    · refine Runs.ifY (pc' := 238) d0_231 (teq hc35).1 (by decide) <| ?_
      exact Runs.iconst d0_238 ci_1 <| Runs.goto (pc' := 243) d0_239 (by decide) <| L_law_b243_p q32 i0 i1 i2 i3 i4 i5 i8 i9 t0 r31 (1 : Int32) hf
    · refine Runs.ifN d0_231 (feq hc35).1 <| ?_
      exact Runs.iconst d0_234 ci_2 <| Runs.goto (pc' := 243) d0_235 (by decide) <| L_law_b243_p q32 i0 i1 i2 i3 i4 i5 i8 i9 t0 r31 (2 : Int32) hf
def L_law_b200 (NF : Nat) (ob : Rec) (i0 : Int32) (i1 : Int32) (i2 : Int32) (i3 : Int32) (i4 : Int32) (i5 : Int32) (i8 : Int32) (i9 : Int32) (t0 : Int32) (t1 : Int32) : Option (Int32) :=
  if (i5 &&& (1 : Int32)) = (0 : Int32) then
    L_law_b221 NF ob i0 i1 i2 i3 i4 i5 i8 i9 (t0 &&& t1) i4 (0 : Int32)
  else
    L_law_b221 NF ob i0 i1 i2 i3 i4 i5 i8 i9 (t0 &&& t1) i4 (1 : Int32)
set_option maxRecDepth 65536 in
set_option maxHeartbeats 4000000 in
theorem L_law_b200_p {C : Ctx} {res : Int32} {NF : Nat} (ob : Rec) (i0 : Int32) (i1 : Int32) (i2 : Int32) (i3 : Int32) (i4 : Int32) (i5 : Int32) (i8 : Int32) (i9 : Int32) (t0 : Int32) (t1 : Int32) (hf : L_law_b200 NF ob i0 i1 i2 i3 i4 i5 i8 i9 t0 t1 = some res) : Runs C B0 18 318 200 [vi i0, vi i1, vi i2, vi i3, vi i4, vi i5, vr C.2.2.1, vn, vi i8, vi i9, vn, vn, vn, vn, vn, vn, vn, vn, vn, vn] [.int t1, .int t0] (C.2.2.1 + 1 + 17, (C.2.2.1, 17, ob) :: []) (fun v _ => v = (some (.int res))) := by
  delta L_law_b200 at hf
  refine Runs.iand d0_200 <| Runs.istore (P' := [vi i0, vi i1, vi i2, vi i3, vi i4, vi i5, vr C.2.2.1, vi (t0 &&& t1), vi i8, vi i9, vn, vn, vn, vn, vn, vn, vn, vn, vn, vn]) d0_201 (by decide) rfl <| Runs.iload d0_203 rfl <| Runs.aload d0_205 rfl <| Runs.iload d0_207 rfl <| Runs.iload d0_209 rfl <| Runs.iconst d0_211 ci_1 <| Runs.iand d0_212 <| ?_
  refine ite_el hf (fun hc30 hf => ?_) (fun hc30 hf => ?_)
  · refine Runs.ifY (pc' := 220) d0_213 (teq hc30).1 (by decide) <| ?_
    exact Runs.iconst d0_220 ci_0 <| Runs.forget [true, true, true, true, true, true, true, false, true, true, false, false, false, false, false, false, false, false, false, false] rfl <| L_law_b221_p ob i0 i1 i2 i3 i4 i5 i8 i9 (t0 &&& t1) i4 (0 : Int32) hf
  · refine Runs.ifN d0_213 (feq hc30).1 <| ?_
    exact Runs.iconst d0_216 ci_1 <| Runs.goto (pc' := 221) d0_217 (by decide) <| Runs.forget [true, true, true, true, true, true, true, false, true, true, false, false, false, false, false, false, false, false, false, false] rfl <| L_law_b221_p ob i0 i1 i2 i3 i4 i5 i8 i9 (t0 &&& t1) i4 (1 : Int32) hf
def L_law_b192 (NF : Nat) (ob : Rec) (i0 : Int32) (i1 : Int32) (i2 : Int32) (i3 : Int32) (i4 : Int32) (i5 : Int32) (i8 : Int32) (i9 : Int32) (t0 : Int32) (t1 : Int32) (t2 : Int32) : Option (Int32) :=
  if t1 = t2 then
    L_law_b200 NF ob i0 i1 i2 i3 i4 i5 i8 i9 t0 (1 : Int32)
  else
    L_law_b200 NF ob i0 i1 i2 i3 i4 i5 i8 i9 t0 (0 : Int32)
set_option maxRecDepth 65536 in
set_option maxHeartbeats 4000000 in
theorem L_law_b192_p {C : Ctx} {res : Int32} {NF : Nat} (ob : Rec) (i0 : Int32) (i1 : Int32) (i2 : Int32) (i3 : Int32) (i4 : Int32) (i5 : Int32) (i8 : Int32) (i9 : Int32) (t0 : Int32) (t1 : Int32) (t2 : Int32) (hf : L_law_b192 NF ob i0 i1 i2 i3 i4 i5 i8 i9 t0 t1 t2 = some res) : Runs C B0 18 318 192 [vi i0, vi i1, vi i2, vi i3, vi i4, vi i5, vr C.2.2.1, vn, vi i8, vi i9, vn, vn, vn, vn, vn, vn, vn, vn, vn, vn] [.int t2, .int t1, .int t0] (C.2.2.1 + 1 + 17, (C.2.2.1, 17, ob) :: []) (fun v _ => v = (some (.int res))) := by
  delta L_law_b192 at hf
  refine ite_el hf (fun hc29 hf => ?_) (fun hc29 hf => ?_)
  · refine Runs.icN d0_192 (teq hc29).2 <| ?_
    exact Runs.iconst d0_195 ci_1 <| Runs.goto (pc' := 200) d0_196 (by decide) <| L_law_b200_p ob i0 i1 i2 i3 i4 i5 i8 i9 t0 (1 : Int32) hf
  · refine Runs.icY (pc' := 199) d0_192 (feq hc29).2 (by decide) <| ?_
    exact Runs.iconst d0_199 ci_0 <| L_law_b200_p ob i0 i1 i2 i3 i4 i5 i8 i9 t0 (0 : Int32) hf
def L_law_b179 (NF : Nat) (ob : Rec) (i0 : Int32) (i1 : Int32) (i2 : Int32) (i3 : Int32) (i4 : Int32) (i5 : Int32) (i8 : Int32) (i9 : Int32) (t0 : Int32) (t2 : Int32) (t3 : Int32) : Option (Int32) :=
  bind2 (X_addLiteral ob t2 t3) fun r25 q26 =>
  if i8 = (0 : Int32) then
    L_law_b192 NF q26 i0 i1 i2 i3 i4 i5 i8 i9 t0 r25 (-1 : Int32)
  else
    L_law_b192 NF q26 i0 i1 i2 i3 i4 i5 i8 i9 t0 r25 (1 : Int32)
set_option maxRecDepth 65536 in
set_option maxHeartbeats 4000000 in
theorem L_law_b179_p {C : Ctx} {res : Int32} {NF : Nat} (ob : Rec) (i0 : Int32) (i1 : Int32) (i2 : Int32) (i3 : Int32) (i4 : Int32) (i5 : Int32) (i8 : Int32) (i9 : Int32) (t0 : Int32) (t2 : Int32) (t3 : Int32) (hf : L_law_b179 NF ob i0 i1 i2 i3 i4 i5 i8 i9 t0 t2 t3 = some res) : Runs C B0 18 318 179 [vi i0, vi i1, vi i2, vi i3, vi i4, vi i5, vr C.2.2.1, vn, vi i8, vi i9, vn, vn, vn, vn, vn, vn, vn, vn, vn, vn] [.int t3, .int t2, .ref C.2.2.1, .int t0] (C.2.2.1 + 1 + 17, (C.2.2.1, 17, ob) :: []) (fun v _ => v = (some (.int res))) := by
  delta L_law_b179 at hf
  refine bind2_el hf fun r25 q26 hg27 hf => ?_
  refine Runs.callV (N := B2) (W := 1) (as := [.int t2, .int t3]) (S' := [.int t0]) d0_179 w67 w68 w69 w70 cw2 ar2 rk0_2_1 (by decide) rfl rfl (X_addLiteral_pay hg27) <| ans1 <| Runs.iload d0_182 rfl <| ?_
  refine ite_el hf (fun hc28 hf => ?_) (fun hc28 hf => ?_)
  · refine Runs.ifY (pc' := 191) d0_184 (teq hc28).1 (by decide) <| ?_
    exact Runs.iconst d0_191 ci_m1 <| L_law_b192_p q26 i0 i1 i2 i3 i4 i5 i8 i9 t0 r25 (-1 : Int32) hf
  · refine Runs.ifN d0_184 (feq hc28).1 <| ?_
    exact Runs.iconst d0_187 ci_1 <| Runs.goto (pc' := 192) d0_188 (by decide) <| L_law_b192_p q26 i0 i1 i2 i3 i4 i5 i8 i9 t0 r25 (1 : Int32) hf
def L_law_b161 (NF : Nat) (ob : Rec) (i0 : Int32) (i1 : Int32) (i2 : Int32) (i3 : Int32) (i4 : Int32) (i5 : Int32) (i7 : Int32) (i8 : Int32) (t0 : Int32) : Option (Int32) :=
  if (i3 &&& (1 : Int32)) = (0 : Int32) then
    L_law_b179 NF ob i0 i1 i2 i3 i4 i5 i8 t0 i7 i2 (0 : Int32)
  else
    L_law_b179 NF ob i0 i1 i2 i3 i4 i5 i8 t0 i7 i2 (1 : Int32)
set_option maxRecDepth 65536 in
set_option maxHeartbeats 4000000 in
theorem L_law_b161_p {C : Ctx} {res : Int32} {NF : Nat} (ob : Rec) (i0 : Int32) (i1 : Int32) (i2 : Int32) (i3 : Int32) (i4 : Int32) (i5 : Int32) (i7 : Int32) (i8 : Int32) (t0 : Int32) (hf : L_law_b161 NF ob i0 i1 i2 i3 i4 i5 i7 i8 t0 = some res) : Runs C B0 18 318 161 [vi i0, vi i1, vi i2, vi i3, vi i4, vi i5, vr C.2.2.1, vi i7, vi i8, vn, vn, vn, vn, vn, vn, vn, vn, vn, vn, vn] [.int t0] (C.2.2.1 + 1 + 17, (C.2.2.1, 17, ob) :: []) (fun v _ => v = (some (.int res))) := by
  delta L_law_b161 at hf
  refine Runs.istore (P' := [vi i0, vi i1, vi i2, vi i3, vi i4, vi i5, vr C.2.2.1, vi i7, vi i8, vi t0, vn, vn, vn, vn, vn, vn, vn, vn, vn, vn]) d0_161 (by decide) rfl <| Runs.iload d0_163 rfl <| Runs.aload d0_165 rfl <| Runs.iloadN d0_167 rfl <| Runs.iloadN d0_168 rfl <| Runs.iconst d0_169 ci_1 <| Runs.iand d0_170 <| ?_
  refine ite_el hf (fun hc24 hf => ?_) (fun hc24 hf => ?_)
  · refine Runs.ifY (pc' := 178) d0_171 (teq hc24).1 (by decide) <| ?_
    exact Runs.iconst d0_178 ci_0 <| Runs.forget [true, true, true, true, true, true, true, false, true, true, false, false, false, false, false, false, false, false, false, false] rfl <| L_law_b179_p ob i0 i1 i2 i3 i4 i5 i8 t0 i7 i2 (0 : Int32) hf
  · refine Runs.ifN d0_171 (feq hc24).1 <| ?_
    exact Runs.iconst d0_174 ci_1 <| Runs.goto (pc' := 179) d0_175 (by decide) <| Runs.forget [true, true, true, true, true, true, true, false, true, true, false, false, false, false, false, false, false, false, false, false] rfl <| L_law_b179_p ob i0 i1 i2 i3 i4 i5 i8 t0 i7 i2 (1 : Int32) hf
def L_law_b143 (NF : Nat) (ob : Rec) (i0 : Int32) (i1 : Int32) (i2 : Int32) (i3 : Int32) (i4 : Int32) (i5 : Int32) (i7 : Int32) (t0 : Int32) : Option (Int32) :=
  if i4 < (0 : Int32) then
    L_law_b161 NF ob i0 i1 i2 i3 i4 i5 i7 t0 (0 : Int32)
  else
    if i4 < (3 : Int32) then
      L_law_b161 NF ob i0 i1 i2 i3 i4 i5 i7 t0 (1 : Int32)
    else
      L_law_b161 NF ob i0 i1 i2 i3 i4 i5 i7 t0 (0 : Int32)
set_option maxRecDepth 65536 in
set_option maxHeartbeats 4000000 in
theorem L_law_b143_p {C : Ctx} {res : Int32} {NF : Nat} (ob : Rec) (i0 : Int32) (i1 : Int32) (i2 : Int32) (i3 : Int32) (i4 : Int32) (i5 : Int32) (i7 : Int32) (t0 : Int32) (hf : L_law_b143 NF ob i0 i1 i2 i3 i4 i5 i7 t0 = some res) : Runs C B0 18 318 143 [vi i0, vi i1, vi i2, vi i3, vi i4, vi i5, vr C.2.2.1, vi i7, vn, vn, vn, vn, vn, vn, vn, vn, vn, vn, vn, vn] [.int t0] (C.2.2.1 + 1 + 17, (C.2.2.1, 17, ob) :: []) (fun v _ => v = (some (.int res))) := by
  delta L_law_b143 at hf
  refine Runs.istore (P' := [vi i0, vi i1, vi i2, vi i3, vi i4, vi i5, vr C.2.2.1, vi i7, vi t0, vn, vn, vn, vn, vn, vn, vn, vn, vn, vn, vn]) d0_143 (by decide) rfl <| Runs.iload d0_145 rfl <| ?_
  refine ite_el hf (fun hc22 hf => ?_) (fun hc22 hf => ?_)
  · refine Runs.ifY (pc' := 160) d0_147 (tlt hc22).1 (by decide) <| ?_
    exact Runs.iconst d0_160 ci_0 <| L_law_b161_p ob i0 i1 i2 i3 i4 i5 i7 t0 (0 : Int32) hf
  · refine Runs.ifN d0_147 (flt hc22).1 <| ?_
    refine Runs.iload d0_150 rfl <| Runs.iconst d0_152 ci_3 <| ?_
    refine ite_el hf (fun hc23 hf => ?_) (fun hc23 hf => ?_)
    · refine Runs.icN d0_153 (tlt hc23).2.1 <| ?_
      exact Runs.iconst d0_156 ci_1 <| Runs.goto (pc' := 161) d0_157 (by decide) <| L_law_b161_p ob i0 i1 i2 i3 i4 i5 i7 t0 (1 : Int32) hf
    · refine Runs.icY (pc' := 160) d0_153 (flt hc23).2.1 (by decide) <| ?_
      exact Runs.iconst d0_160 ci_0 <| L_law_b161_p ob i0 i1 i2 i3 i4 i5 i7 t0 (0 : Int32) hf
def L_law_b126 (NF : Nat) (ob : Rec) (i0 : Int32) (i1 : Int32) (i2 : Int32) (i3 : Int32) (i4 : Int32) (i5 : Int32) (t0 : Int32) (t1 : Int32) : Option (Int32) :=
  if i2 < (0 : Int32) then
    L_law_b143 NF ob i0 i1 i2 i3 i4 i5 (t0 &&& t1) (0 : Int32)
  else
    if i2 < (3 : Int32) then
      L_law_b143 NF ob i0 i1 i2 i3 i4 i5 (t0 &&& t1) (1 : Int32)
    else
      L_law_b143 NF ob i0 i1 i2 i3 i4 i5 (t0 &&& t1) (0 : Int32)
set_option maxRecDepth 65536 in
set_option maxHeartbeats 4000000 in
theorem L_law_b126_p {C : Ctx} {res : Int32} {NF : Nat} (ob : Rec) (i0 : Int32) (i1 : Int32) (i2 : Int32) (i3 : Int32) (i4 : Int32) (i5 : Int32) (t0 : Int32) (t1 : Int32) (hf : L_law_b126 NF ob i0 i1 i2 i3 i4 i5 t0 t1 = some res) : Runs C B0 18 318 126 [vi i0, vi i1, vi i2, vi i3, vi i4, vi i5, vr C.2.2.1, vn, vn, vn, vn, vn, vn, vn, vn, vn, vn, vn, vn, vn] [.int t1, .int t0] (C.2.2.1 + 1 + 17, (C.2.2.1, 17, ob) :: []) (fun v _ => v = (some (.int res))) := by
  delta L_law_b126 at hf
  refine Runs.iand d0_126 <| Runs.istore (P' := [vi i0, vi i1, vi i2, vi i3, vi i4, vi i5, vr C.2.2.1, vi (t0 &&& t1), vn, vn, vn, vn, vn, vn, vn, vn, vn, vn, vn, vn]) d0_127 (by decide) rfl <| Runs.iloadN d0_129 rfl <| ?_
  refine ite_el hf (fun hc20 hf => ?_) (fun hc20 hf => ?_)
  · refine Runs.ifY (pc' := 142) d0_130 (tlt hc20).1 (by decide) <| ?_
    exact Runs.iconst d0_142 ci_0 <| L_law_b143_p ob i0 i1 i2 i3 i4 i5 (t0 &&& t1) (0 : Int32) hf
  · refine Runs.ifN d0_130 (flt hc20).1 <| ?_
    refine Runs.iloadN d0_133 rfl <| Runs.iconst d0_134 ci_3 <| ?_
    refine ite_el hf (fun hc21 hf => ?_) (fun hc21 hf => ?_)
    · refine Runs.icN d0_135 (tlt hc21).2.1 <| ?_
      exact Runs.iconst d0_138 ci_1 <| Runs.goto (pc' := 143) d0_139 (by decide) <| L_law_b143_p ob i0 i1 i2 i3 i4 i5 (t0 &&& t1) (1 : Int32) hf
    · refine Runs.icY (pc' := 142) d0_135 (flt hc21).2.1 (by decide) <| ?_
      exact Runs.iconst d0_142 ci_0 <| L_law_b143_p ob i0 i1 i2 i3 i4 i5 (t0 &&& t1) (0 : Int32) hf
def L_law_b115 (NF : Nat) (ob : Rec) (i0 : Int32) (i1 : Int32) (i2 : Int32) (i3 : Int32) (i4 : Int32) (i5 : Int32) (t0 : Int32) (t2 : Int32) : Option (Int32) :=
  bind2 (X_commitXor NF ob t2) fun r16 q17 =>
  if r16 = (0 : Int32) then
    L_law_b126 NF q17 i0 i1 i2 i3 i4 i5 t0 (1 : Int32)
  else
    L_law_b126 NF q17 i0 i1 i2 i3 i4 i5 t0 (0 : Int32)
set_option maxRecDepth 65536 in
set_option maxHeartbeats 4000000 in
theorem L_law_b115_p {C : Ctx} {res : Int32} {NF : Nat} (ob : Rec) (i0 : Int32) (i1 : Int32) (i2 : Int32) (i3 : Int32) (i4 : Int32) (i5 : Int32) (t0 : Int32) (t2 : Int32) (hf : L_law_b115 NF ob i0 i1 i2 i3 i4 i5 t0 t2 = some res) : Runs C B0 18 318 115 [vi i0, vi i1, vi i2, vi i3, vi i4, vi i5, vr C.2.2.1, vn, vn, vn, vn, vn, vn, vn, vn, vn, vn, vn, vn, vn] [.int t2, .ref C.2.2.1, .int t0] (C.2.2.1 + 1 + 17, (C.2.2.1, 17, ob) :: []) (fun v _ => v = (some (.int res))) := by
  delta L_law_b115 at hf
  refine bind2_el hf fun r16 q17 hg18 hf => ?_
  refine Runs.callV (N := B3) (W := 1) (as := [.int t2]) (S' := [.int t0]) d0_115 w72 w73 w74 w75 cw3 ar3 rk0_3_1 (by decide) rfl rfl (X_commitXor_pay hg18) <| ans1 <| ?_
  refine ite_el hf (fun hc19 hf => ?_) (fun hc19 hf => ?_)
  · refine Runs.ifN d0_118 (teq hc19).2 <| ?_
    exact Runs.iconst d0_121 ci_1 <| Runs.goto (pc' := 126) d0_122 (by decide) <| L_law_b126_p q17 i0 i1 i2 i3 i4 i5 t0 (1 : Int32) hf
  · refine Runs.ifY (pc' := 125) d0_118 (feq hc19).2 (by decide) <| ?_
    exact Runs.iconst d0_125 ci_0 <| L_law_b126_p q17 i0 i1 i2 i3 i4 i5 t0 (0 : Int32) hf
def L_law_b97 (NF : Nat) (ob : Rec) (i0 : Int32) (i1 : Int32) (i2 : Int32) (i3 : Int32) (i4 : Int32) (i5 : Int32) (t0 : Int32) (t1 : Int32) : Option (Int32) :=
  if (i1 &&& (1 : Int32)) = (0 : Int32) then
    L_law_b115 NF ob i0 i1 i2 i3 i4 i5 (t0 &&& t1) (0 : Int32)
  else
    L_law_b115 NF ob i0 i1 i2 i3 i4 i5 (t0 &&& t1) (1 : Int32)
set_option maxRecDepth 65536 in
set_option maxHeartbeats 4000000 in
theorem L_law_b97_p {C : Ctx} {res : Int32} {NF : Nat} (ob : Rec) (i0 : Int32) (i1 : Int32) (i2 : Int32) (i3 : Int32) (i4 : Int32) (i5 : Int32) (t0 : Int32) (t1 : Int32) (hf : L_law_b97 NF ob i0 i1 i2 i3 i4 i5 t0 t1 = some res) : Runs C B0 18 318 97 [vi i0, vi i1, vi i2, vi i3, vi i4, vi i5, vr C.2.2.1, vn, vn, vn, vn, vn, vn, vn, vn, vn, vn, vn, vn, vn] [.int t1, .int t0] (C.2.2.1 + 1 + 17, (C.2.2.1, 17, ob) :: []) (fun v _ => v = (some (.int res))) := by
  delta L_law_b97 at hf
  refine Runs.iand d0_97 <| Runs.istore (P' := [vi i0, vi i1, vi i2, vi i3, vi i4, vi i5, vr C.2.2.1, vi (t0 &&& t1), vn, vn, vn, vn, vn, vn, vn, vn, vn, vn, vn, vn]) d0_98 (by decide) rfl <| Runs.iload d0_100 rfl <| Runs.aload d0_102 rfl <| Runs.iloadN d0_104 rfl <| Runs.iconst d0_105 ci_1 <| Runs.iand d0_106 <| ?_
  refine ite_el hf (fun hc15 hf => ?_) (fun hc15 hf => ?_)
  · refine Runs.ifY (pc' := 114) d0_107 (teq hc15).1 (by decide) <| ?_
    exact Runs.iconst d0_114 ci_0 <| Runs.forget [true, true, true, true, true, true, true, false, false, false, false, false, false, false, false, false, false, false, false, false] rfl <| L_law_b115_p ob i0 i1 i2 i3 i4 i5 (t0 &&& t1) (0 : Int32) hf
  · refine Runs.ifN d0_107 (feq hc15).1 <| ?_
    exact Runs.iconst d0_110 ci_1 <| Runs.goto (pc' := 115) d0_111 (by decide) <| Runs.forget [true, true, true, true, true, true, true, false, false, false, false, false, false, false, false, false, false, false, false, false] rfl <| L_law_b115_p ob i0 i1 i2 i3 i4 i5 (t0 &&& t1) (1 : Int32) hf
def L_law_b85 (NF : Nat) (ob : Rec) (i0 : Int32) (i1 : Int32) (i2 : Int32) (i3 : Int32) (i4 : Int32) (i5 : Int32) (t0 : Int32) (t2 : Int32) (t3 : Int32) : Option (Int32) :=
  bind2 (X_addLiteral ob t2 t3) fun r11 q12 =>
  if r11 = (3 : Int32) then
    L_law_b97 NF q12 i0 i1 i2 i3 i4 i5 t0 (1 : Int32)
  else
    L_law_b97 NF q12 i0 i1 i2 i3 i4 i5 t0 (0 : Int32)
set_option maxRecDepth 65536 in
set_option maxHeartbeats 4000000 in
theorem L_law_b85_p {C : Ctx} {res : Int32} {NF : Nat} (ob : Rec) (i0 : Int32) (i1 : Int32) (i2 : Int32) (i3 : Int32) (i4 : Int32) (i5 : Int32) (t0 : Int32) (t2 : Int32) (t3 : Int32) (hf : L_law_b85 NF ob i0 i1 i2 i3 i4 i5 t0 t2 t3 = some res) : Runs C B0 18 318 85 [vi i0, vi i1, vi i2, vi i3, vi i4, vi i5, vr C.2.2.1, vn, vn, vn, vn, vn, vn, vn, vn, vn, vn, vn, vn, vn] [.int t3, .int t2, .ref C.2.2.1, .int t0] (C.2.2.1 + 1 + 17, (C.2.2.1, 17, ob) :: []) (fun v _ => v = (some (.int res))) := by
  delta L_law_b85 at hf
  refine bind2_el hf fun r11 q12 hg13 hf => ?_
  refine Runs.callV (N := B2) (W := 1) (as := [.int t2, .int t3]) (S' := [.int t0]) d0_85 w67 w68 w69 w70 cw2 ar2 rk0_2_1 (by decide) rfl rfl (X_addLiteral_pay hg13) <| ans1 <| Runs.iconst d0_88 ci_3 <| ?_
  refine ite_el hf (fun hc14 hf => ?_) (fun hc14 hf => ?_)
  · refine Runs.icN d0_89 (teq hc14).2 <| ?_
    exact Runs.iconst d0_92 ci_1 <| Runs.goto (pc' := 97) d0_93 (by decide) <| L_law_b97_p q12 i0 i1 i2 i3 i4 i5 t0 (1 : Int32) hf
  · refine Runs.icY (pc' := 96) d0_89 (feq hc14).2 (by decide) <| ?_
    exact Runs.iconst d0_96 ci_0 <| L_law_b97_p q12 i0 i1 i2 i3 i4 i5 t0 (0 : Int32) hf
def L_law_b66 (NF : Nat) (ob : Rec) (i0 : Int32) (i1 : Int32) (i2 : Int32) (i3 : Int32) (i4 : Int32) (i5 : Int32) (t0 : Int32) (t1 : Int32) : Option (Int32) :=
  if (i0 &&& (4 : Int32)) = (0 : Int32) then
    L_law_b85 NF ob i0 i1 i2 i3 i4 i5 (t0 &&& t1) (2 : Int32) (0 : Int32)
  else
    L_law_b85 NF ob i0 i1 i2 i3 i4 i5 (t0 &&& t1) (2 : Int32) (1 : Int32)
set_option maxRecDepth 65536 in
set_option maxHeartbeats 4000000 in
theorem L_law_b66_p {C : Ctx} {res : Int32} {NF : Nat} (ob : Rec) (i0 : Int32) (i1 : Int32) (i2 : Int32) (i3 : Int32) (i4 : Int32) (i5 : Int32) (t0 : Int32) (t1 : Int32) (hf : L_law_b66 NF ob i0 i1 i2 i3 i4 i5 t0 t1 = some res) : Runs C B0 18 318 66 [vi i0, vi i1, vi i2, vi i3, vi i4, vi i5, vr C.2.2.1, vn, vn, vn, vn, vn, vn, vn, vn, vn, vn, vn, vn, vn] [.int t1, .int t0] (C.2.2.1 + 1 + 17, (C.2.2.1, 17, ob) :: []) (fun v _ => v = (some (.int res))) := by
  delta L_law_b66 at hf
  refine Runs.iand d0_66 <| Runs.istore (P' := [vi i0, vi i1, vi i2, vi i3, vi i4, vi i5, vr C.2.2.1, vi (t0 &&& t1), vn, vn, vn, vn, vn, vn, vn, vn, vn, vn, vn, vn]) d0_67 (by decide) rfl <| Runs.iload d0_69 rfl <| Runs.aload d0_71 rfl <| Runs.iconst d0_73 ci_2 <| Runs.iloadN d0_74 rfl <| Runs.iconst d0_75 ci_4 <| Runs.iand d0_76 <| ?_
  refine ite_el hf (fun hc10 hf => ?_) (fun hc10 hf => ?_)
  · refine Runs.ifY (pc' := 84) d0_77 (teq hc10).1 (by decide) <| ?_
    exact Runs.iconst d0_84 ci_0 <| Runs.forget [true, true, true, true, true, true, true, false, false, false, false, false, false, false, false, false, false, false, false, false] rfl <| L_law_b85_p ob i0 i1 i2 i3 i4 i5 (t0 &&& t1) (2 : Int32) (0 : Int32) hf
  · refine Runs.ifN d0_77 (feq hc10).1 <| ?_
    exact Runs.iconst d0_80 ci_1 <| Runs.goto (pc' := 85) d0_81 (by decide) <| Runs.forget [true, true, true, true, true, true, true, false, false, false, false, false, false, false, false, false, false, false, false, false] rfl <| L_law_b85_p ob i0 i1 i2 i3 i4 i5 (t0 &&& t1) (2 : Int32) (1 : Int32) hf
def L_law_b54 (NF : Nat) (ob : Rec) (i0 : Int32) (i1 : Int32) (i2 : Int32) (i3 : Int32) (i4 : Int32) (i5 : Int32) (t0 : Int32) (t2 : Int32) (t3 : Int32) : Option (Int32) :=
  bind2 (X_addLiteral ob t2 t3) fun r6 q7 =>
  if r6 = (2 : Int32) then
    L_law_b66 NF q7 i0 i1 i2 i3 i4 i5 t0 (1 : Int32)
  else
    L_law_b66 NF q7 i0 i1 i2 i3 i4 i5 t0 (0 : Int32)
set_option maxRecDepth 65536 in
set_option maxHeartbeats 4000000 in
theorem L_law_b54_p {C : Ctx} {res : Int32} {NF : Nat} (ob : Rec) (i0 : Int32) (i1 : Int32) (i2 : Int32) (i3 : Int32) (i4 : Int32) (i5 : Int32) (t0 : Int32) (t2 : Int32) (t3 : Int32) (hf : L_law_b54 NF ob i0 i1 i2 i3 i4 i5 t0 t2 t3 = some res) : Runs C B0 18 318 54 [vi i0, vi i1, vi i2, vi i3, vi i4, vi i5, vr C.2.2.1, vn, vn, vn, vn, vn, vn, vn, vn, vn, vn, vn, vn, vn] [.int t3, .int t2, .ref C.2.2.1, .int t0] (C.2.2.1 + 1 + 17, (C.2.2.1, 17, ob) :: []) (fun v _ => v = (some (.int res))) := by
  delta L_law_b54 at hf
  refine bind2_el hf fun r6 q7 hg8 hf => ?_
  refine Runs.callV (N := B2) (W := 1) (as := [.int t2, .int t3]) (S' := [.int t0]) d0_54 w67 w68 w69 w70 cw2 ar2 rk0_2_1 (by decide) rfl rfl (X_addLiteral_pay hg8) <| ans1 <| Runs.iconst d0_57 ci_2 <| ?_
  refine ite_el hf (fun hc9 hf => ?_) (fun hc9 hf => ?_)
  · refine Runs.icN d0_58 (teq hc9).2 <| ?_
    exact Runs.iconst d0_61 ci_1 <| Runs.goto (pc' := 66) d0_62 (by decide) <| L_law_b66_p q7 i0 i1 i2 i3 i4 i5 t0 (1 : Int32) hf
  · refine Runs.icY (pc' := 65) d0_58 (feq hc9).2 (by decide) <| ?_
    exact Runs.iconst d0_65 ci_0 <| L_law_b66_p q7 i0 i1 i2 i3 i4 i5 t0 (0 : Int32) hf
def L_law_b36 (NF : Nat) (ob : Rec) (i0 : Int32) (i1 : Int32) (i2 : Int32) (i3 : Int32) (i4 : Int32) (i5 : Int32) (t0 : Int32) : Option (Int32) :=
  if (i0 &&& (2 : Int32)) = (0 : Int32) then
    L_law_b54 NF ob i0 i1 i2 i3 i4 i5 t0 (1 : Int32) (0 : Int32)
  else
    L_law_b54 NF ob i0 i1 i2 i3 i4 i5 t0 (1 : Int32) (1 : Int32)
set_option maxRecDepth 65536 in
set_option maxHeartbeats 4000000 in
theorem L_law_b36_p {C : Ctx} {res : Int32} {NF : Nat} (ob : Rec) (i0 : Int32) (i1 : Int32) (i2 : Int32) (i3 : Int32) (i4 : Int32) (i5 : Int32) (t0 : Int32) (hf : L_law_b36 NF ob i0 i1 i2 i3 i4 i5 t0 = some res) : Runs C B0 18 318 36 [vi i0, vi i1, vi i2, vi i3, vi i4, vi i5, vr C.2.2.1, vn, vn, vn, vn, vn, vn, vn, vn, vn, vn, vn, vn, vn] [.int t0] (C.2.2.1 + 1 + 17, (C.2.2.1, 17, ob) :: []) (fun v _ => v = (some (.int res))) := by
  delta L_law_b36 at hf
  refine Runs.istore (P' := [vi i0, vi i1, vi i2, vi i3, vi i4, vi i5, vr C.2.2.1, vi t0, vn, vn, vn, vn, vn, vn, vn, vn, vn, vn, vn, vn]) d0_36 (by decide) rfl <| Runs.iload d0_38 rfl <| Runs.aload d0_40 rfl <| Runs.iconst d0_42 ci_1 <| Runs.iloadN d0_43 rfl <| Runs.iconst d0_44 ci_2 <| Runs.iand d0_45 <| ?_
  refine ite_el hf (fun hc5 hf => ?_) (fun hc5 hf => ?_)
  · refine Runs.ifY (pc' := 53) d0_46 (teq hc5).1 (by decide) <| ?_
    exact Runs.iconst d0_53 ci_0 <| Runs.forget [true, true, true, true, true, true, true, false, false, false, false, false, false, false, false, false, false, false, false, false] rfl <| L_law_b54_p ob i0 i1 i2 i3 i4 i5 t0 (1 : Int32) (0 : Int32) hf
  · refine Runs.ifN d0_46 (feq hc5).1 <| ?_
    exact Runs.iconst d0_49 ci_1 <| Runs.goto (pc' := 54) d0_50 (by decide) <| Runs.forget [true, true, true, true, true, true, true, false, false, false, false, false, false, false, false, false, false, false, false, false] rfl <| L_law_b54_p ob i0 i1 i2 i3 i4 i5 t0 (1 : Int32) (1 : Int32) hf
def L_law_b24 (NF : Nat) (ob : Rec) (i0 : Int32) (i1 : Int32) (i2 : Int32) (i3 : Int32) (i4 : Int32) (i5 : Int32) (t1 : Int32) (t2 : Int32) : Option (Int32) :=
  bind2 (X_addLiteral ob t1 t2) fun r1 q2 =>
  if r1 = (1 : Int32) then
    L_law_b36 NF q2 i0 i1 i2 i3 i4 i5 (1 : Int32)
  else
    L_law_b36 NF q2 i0 i1 i2 i3 i4 i5 (0 : Int32)
set_option maxRecDepth 65536 in
set_option maxHeartbeats 4000000 in
theorem L_law_b24_p {C : Ctx} {res : Int32} {NF : Nat} (ob : Rec) (i0 : Int32) (i1 : Int32) (i2 : Int32) (i3 : Int32) (i4 : Int32) (i5 : Int32) (t1 : Int32) (t2 : Int32) (hf : L_law_b24 NF ob i0 i1 i2 i3 i4 i5 t1 t2 = some res) : Runs C B0 18 318 24 [vi i0, vi i1, vi i2, vi i3, vi i4, vi i5, vr C.2.2.1, vn, vn, vn, vn, vn, vn, vn, vn, vn, vn, vn, vn, vn] [.int t2, .int t1, .ref C.2.2.1] (C.2.2.1 + 1 + 17, (C.2.2.1, 17, ob) :: []) (fun v _ => v = (some (.int res))) := by
  delta L_law_b24 at hf
  refine bind2_el hf fun r1 q2 hg3 hf => ?_
  refine Runs.callV (N := B2) (W := 0) (as := [.int t1, .int t2]) (S' := []) d0_24 w67 w68 w69 w70 cw2 ar2 rk0_2_0 (by decide) rfl rfl (X_addLiteral_pay hg3) <| ans1 <| Runs.iconst d0_27 ci_1 <| ?_
  refine ite_el hf (fun hc4 hf => ?_) (fun hc4 hf => ?_)
  · refine Runs.icN d0_28 (teq hc4).2 <| ?_
    exact Runs.iconst d0_31 ci_1 <| Runs.goto (pc' := 36) d0_32 (by decide) <| L_law_b36_p q2 i0 i1 i2 i3 i4 i5 (1 : Int32) hf
  · refine Runs.icY (pc' := 35) d0_28 (feq hc4).2 (by decide) <| ?_
    exact Runs.iconst d0_35 ci_0 <| L_law_b36_p q2 i0 i1 i2 i3 i4 i5 (0 : Int32) hf
def L_law (NF : Nat) (i0 : Int32) (i1 : Int32) (i2 : Int32) (i3 : Int32) (i4 : Int32) (i5 : Int32) : Option (Int32) :=
  (X_init (3 : Int32)).bind fun q102 =>
  if (i0 &&& (1 : Int32)) = (0 : Int32) then
    L_law_b24 NF q102 i0 i1 i2 i3 i4 i5 (0 : Int32) (0 : Int32)
  else
    L_law_b24 NF q102 i0 i1 i2 i3 i4 i5 (0 : Int32) (1 : Int32)
set_option maxRecDepth 65536 in
set_option maxHeartbeats 4000000 in
theorem L_law_p {C : Ctx} {res : Int32} {NF : Nat} (i0 : Int32) (i1 : Int32) (i2 : Int32) (i3 : Int32) (i4 : Int32) (i5 : Int32) (hf : L_law NF i0 i1 i2 i3 i4 i5 = some res) : Runs C B0 0 0 0 [vi i0, vi i1, vi i2, vi i3, vi i4, vi i5, vn, vn, vn, vn, vn, vn, vn, vn, vn, vn, vn, vn, vn, vn] [] (C.2.2.1, []) (fun v _ => v = (some (.int res))) := by
  delta L_law at hf
  refine Runs.newK (k' := 1) (n' := 35) d0_0 w0 ⟨by decide, by decide⟩ rfl rfl (by intro x hx; cases hx) <| Runs.dup d0_3 rfl <| Runs.iconst d0_4 ci_3 <| ?_
  refine bind_el hf fun q102 hg103 hf => ?_
  refine Runs.callI (N := B1) (k' := 18) (n' := 318) (W := 1) (as := [.int (3 : Int32)]) (S' := [.ref C.2.2.1]) d0_5 rfl rfl w3 w4 cw1 ar1 (by decide) rfl rfl rfl rfl (X_init_pay hg103) <| ans0 <| Runs.astore (P' := [vi i0, vi i1, vi i2, vi i3, vi i4, vi i5, vr C.2.2.1, vn, vn, vn, vn, vn, vn, vn, vn, vn, vn, vn, vn, vn]) d0_8 (by decide) rfl <| Runs.aload d0_10 rfl <| Runs.iconst d0_12 ci_0 <| Runs.iloadN d0_13 rfl <| Runs.iconst d0_14 ci_1 <| Runs.iand d0_15 <| ?_
  refine ite_el hf (fun hc104 hf => ?_) (fun hc104 hf => ?_)
  · refine Runs.ifY (pc' := 23) d0_16 (teq hc104).1 (by decide) <| ?_
    exact Runs.iconst d0_23 ci_0 <| L_law_b24_p q102 i0 i1 i2 i3 i4 i5 (0 : Int32) (0 : Int32) hf
  · refine Runs.ifN d0_16 (feq hc104).1 <| ?_
    exact Runs.iconst d0_19 ci_1 <| Runs.goto (pc' := 24) d0_20 (by decide) <| L_law_b24_p q102 i0 i1 i2 i3 i4 i5 (0 : Int32) (1 : Int32) hf
theorem L_law_pay {C : Ctx} {res : Int32} {NF : Nat} {i0 : Int32} {i1 : Int32} {i2 : Int32} {i3 : Int32} {i4 : Int32} {i5 : Int32} (hf : L_law NF i0 i1 i2 i3 i4 i5 = some res) : Pays C B0 [.int i0, .int i1, .int i2, .int i3, .int i4, .int i5] (C.2.2.1, []) (fun v _ => v = (some (.int res))) :=
  Pays.of pnL (Nat.le_of_ble_eq_true rfl) (P := [vi i0, vi i1, vi i2, vi i3, vi i4, vi i5, vn, vn, vn, vn, vn, vn, vn, vn, vn, vn, vn, vn, vn, vn]) 14 rfl (L_law_p i0 i1 i2 i3 i4 i5 hf)
-- no word: X_countModels at 34: method #131
--OWED--
theorem gI_sI (ob : Rec) (k j : Nat) (v : Int32) : gI (sI ob k v) j = if j = k then v else gI ob j := rfl
theorem gI_sA (ob : Rec) (k j : Nat) (i v : Int32) : gI (sA ob k i v) j = gI ob j := rfl
theorem gI_sJ (ob : Rec) (k j : Nat) (i : Int32) (v : Int64) : gI (sJ ob k i v) j = gI ob j := rfl
theorem gA_sI (ob : Rec) (k j : Nat) (v x : Int32) : gA (sI ob k v) j x = gA ob j x := rfl
theorem gA_sA (ob : Rec) (k j : Nat) (i v x : Int32) : gA (sA ob k i v) j x = if j = k ∧ x = i then v else gA ob j x := rfl
theorem gA_sJ (ob : Rec) (k j : Nat) (i x : Int32) (v : Int64) : gA (sJ ob k i v) j x = gA ob j x := rfl
theorem gJ_sI (ob : Rec) (k j : Nat) (v x : Int32) : gJ (sI ob k v) j x = gJ ob j x := rfl
theorem gJ_sA (ob : Rec) (k j : Nat) (i v x : Int32) : gJ (sA ob k i v) j x = gJ ob j x := rfl
theorem gJ_sJ (ob : Rec) (k j : Nat) (i x : Int32) (v : Int64) : gJ (sJ ob k i v) j x = if j = k ∧ x = i then v else gJ ob j x := rfl
theorem gI_z (k : Nat) : gI zrec k = 0 := rfl
theorem gA_z (k : Nat) (i : Int32) : gA zrec k i = 0 := rfl
theorem gJ_z (k : Nat) (i : Int32) : gJ zrec k i = 0 := rfl
theorem chk_ok {γ : Type} {n i : Int32} {A : Option γ} (h : 0 ≤ i.toInt ∧ i.toInt < n.toInt) : chk n i A = A := by
  have h0 : ¬ i < 0 := by rw [Int32.lt_iff_toInt_lt]; show ¬ i.toInt < 0; omega
  have h1 : i < n := by rw [Int32.lt_iff_toInt_lt]; exact h.2
  unfold chk; rw [if_neg h0, if_pos h1]
theorem lt_i {x y : Int32} : x < y ↔ x.toInt < y.toInt := Int32.lt_iff_toInt_lt
theorem le_i {x y : Int32} : x ≤ y ↔ x.toInt ≤ y.toInt := Int32.le_iff_toInt_le
theorem eq_i32 {x y : Int32} : x = y ↔ x.toInt = y.toInt := Int32.toInt_inj.symm
theorem bm_id {n : Int} (h : -2147483648 ≤ n ∧ n < 2147483648) : n.bmod (2 ^ 32) = n := Int.bmod_eq_of_le (by omega) (by omega)
theorem ad {x y : Int32} (h : -2147483648 ≤ x.toInt + y.toInt ∧ x.toInt + y.toInt < 2147483648) : (x + y).toInt = x.toInt + y.toInt := by rw [Int32.toInt_add, bm_id h]
theorem sb {x y : Int32} (h : -2147483648 ≤ x.toInt - y.toInt ∧ x.toInt - y.toInt < 2147483648) : (x - y).toInt = x.toInt - y.toInt := by rw [Int32.toInt_sub, bm_id h]
theorem ml {x y : Int32} (h : -2147483648 ≤ x.toInt * y.toInt ∧ x.toInt * y.toInt < 2147483648) : (x * y).toInt = x.toInt * y.toInt := by rw [Int32.toInt_mul, bm_id h]
theorem bind2_some {α β γ : Type} (a : α) (b : β) (f : α → β → Option γ) : bind2 (some (a, b)) f = f a b := rfl
theorem and_b (x m : Int32) (k : Nat) (hm : m.toBitVec.toNat = k) (hk : k < 2147483648) : 0 ≤ (x &&& m).toInt ∧ (x &&& m).toInt ≤ (k : Int) := by
  have h1 : (x &&& m).toBitVec.toNat = x.toBitVec.toNat &&& m.toBitVec.toNat := by rw [Int32.toBitVec_and, BitVec.toNat_and]
  have h2 : (x &&& m).toBitVec.toNat ≤ k := by rw [h1, hm]; exact Nat.and_le_right
  have h3 : (x &&& m).toInt = ((x &&& m).toBitVec.toNat : Int) := by
    show (x &&& m).toBitVec.toInt = _
    exact BitVec.toInt_eq_toNat_of_lt (by omega)
  rw [h3]; omega
theorem mem8 (x : Int32) : (x &&& 7) ∈ ([0, 1, 2, 3, 4, 5, 6, 7] : List Int32) := by
  have h := and_b x 7 7 rfl (by omega)
  simp only [List.mem_cons, eq_i32, Int32.reduceToInt, List.not_mem_nil, or_false]
  omega
theorem mem2 (x : Int32) : (x &&& 1) ∈ ([0, 1] : List Int32) := by
  have h := and_b x 1 1 rfl (by omega)
  simp only [List.mem_cons, eq_i32, Int32.reduceToInt, List.not_mem_nil, or_false]
  omega
-- USE: bits
theorem x7 (m i : Int32) : (m ^^^ i) &&& 7 = (m ^^^ (i &&& 7)) &&& 7 := by
  apply Int32.toBitVec_inj.mp
  simp only [Int32.toBitVec_and, Int32.toBitVec_xor]
  ext k hk
  simp only [BitVec.getElem_and, BitVec.getElem_xor]
  cases ((7 : Int32).toBitVec[k]) <;> simp
theorem aa (i m : Int32) (h : 7 &&& m = m) : i &&& m = (i &&& 7) &&& m := by rw [Int32.and_assoc, h]
theorem l290_c (NF : Nat) (i0 i1 i2 i3 i4 i5 j0 j1 j2 j3 j4 j5 i8 i9 : Int32) (H0 : ∀ m : Int32, (m ^^^ i0) &&& 7 = (m ^^^ j0) &&& 7) (H1 : i1 &&& 1 = j1 &&& 1) (H2 : i8 = 0 ∨ i2 = j2) (H3 : i3 &&& 1 = j3 &&& 1) (H4 : i9 = 0 ∨ i4 = j4) (H5 : i5 &&& 1 = j5 &&& 1) : ∀ (n : Nat) (ob : Rec) (i7 i10 i11 i12 i13 i14 i15 : Int32), L_law_l290 NF n ob i0 i1 i2 i3 i4 i5 i7 i8 i9 i10 i11 i12 i13 i14 i15 = L_law_l290 NF n ob j0 j1 j2 j3 j4 j5 i7 i8 i9 i10 i11 i12 i13 i14 i15 := by
  intro n
  induction n with
  | zero => intros; rfl
  | succ n ih =>
    intro ob i7 i10 i11 i12 i13 i14 i15
    have h394 : ∀ i16 i18 t0 : Int32, L_law_b394 NF (L_law_l290 NF n) ob i0 i1 i2 i3 i4 i5 i7 i8 i9 i10 i11 i12 i13 i14 i15 i16 i18 t0 = L_law_b394 NF (L_law_l290 NF n) ob j0 j1 j2 j3 j4 j5 i7 i8 i9 i10 i11 i12 i13 i14 i15 i16 i18 t0 := by
      intro i16 i18 t0; unfold L_law_b394 L_law_b415; simp only [ih]
    have h370 : ∀ i16 i18 : Int32, L_law_b370 NF (L_law_l290 NF n) ob i0 i1 i2 i3 i4 i5 i7 i8 i9 i10 i11 i12 i13 i14 i15 i16 i18 = L_law_b370 NF (L_law_l290 NF n) ob j0 j1 j2 j3 j4 j5 i7 i8 i9 i10 i11 i12 i13 i14 i15 i16 i18 := by
      intro i16 i18; unfold L_law_b370
      simp only [h394]
      rcases H4 with h | h
      · rw [if_pos h, if_pos h]
      · rw [h, H5]
    have h351 : ∀ i16 t0 : Int32, L_law_b351 NF (L_law_l290 NF n) ob i0 i1 i2 i3 i4 i5 i7 i8 i9 i10 i11 i12 i13 i14 i15 i16 t0 = L_law_b351 NF (L_law_l290 NF n) ob j0 j1 j2 j3 j4 j5 i7 i8 i9 i10 i11 i12 i13 i14 i15 i16 t0 := by
      intro i16 t0; unfold L_law_b351
      simp only [h394, h370]
      rcases H2 with h | h
      · rw [if_pos h, if_pos h]
      · rw [h, H3]
    show L_law_w290 NF (L_law_l290 NF n) ob i0 i1 i2 i3 i4 i5 i7 i8 i9 i10 i11 i12 i13 i14 i15 = L_law_w290 NF (L_law_l290 NF n) ob j0 j1 j2 j3 j4 j5 i7 i8 i9 i10 i11 i12 i13 i14 i15
    unfold L_law_w290
    simp only [h351, H0, H1]
theorem bind2_c {α β γ : Type} {o : Option (α × β)} {f g : α → β → Option γ} (h : ∀ a b, o = some (a, b) → f a b = g a b) : bind2 o f = bind2 o g := by
  rcases o with _ | ⟨a, b⟩
  · rfl
  · exact h a b rfl
theorem po_n {ob q : Rec} {v : Int32} (h : X_pushOrder ob v = some q) : gI q 0 = gI ob 0 := by
  unfold X_pushOrder at h
  refine ite_el h (fun _ h => ?_) (fun _ h => ?_)
  · cases h; rfl
  · refine ite_el h (fun _ h => ?_) (fun _ h => ?_)
    · refine chk_el h (fun _ h => ?_); cases h; rfl
    · cases h; rfl
theorem cx_b {NF : Nat} {ob q : Rec} {a b r : Int32} (h : X_commitXor_b42 NF ob a b = some (r, q)) : gI q 0 = gI ob 0 := by
  unfold X_commitXor_b42 at h
  refine bind_el h (fun x _ h => ?_)
  refine chk_el h (fun _ h => ?_)
  refine chk_el h (fun _ h => ?_)
  refine bind_el h (fun y hy h => ?_)
  have e := po_n hy
  cases h
  exact e
theorem cx_n {NF : Nat} {ob q : Rec} {t r : Int32} (h : X_commitXor NF ob t = some (r, q)) : gI q 0 = gI ob 0 := by
  unfold X_commitXor at h
  refine ite_el h (fun _ h => ?_) (fun _ h => ?_)
  · refine ite_el h (fun _ h => ?_) (fun _ h => ?_)
    · refine bind_el h (fun x _ h => ?_)
      refine ite_el h (fun _ h => ?_) (fun _ h => ?_)
      · exact cx_b h
      · exact cx_b h
    · cases h; rfl
  · cases h; rfl
theorem al_n {ob q : Rec} {x t r : Int32} (h : X_addLiteral ob x t = some (r, q)) : gI q 0 = gI ob 0 := by
  unfold X_addLiteral at h
  refine ite_el h (fun _ h => ?_) (fun _ h => ?_)
  · cases h; rfl
  · refine ite_el h (fun _ h => ?_) (fun _ h => ?_)
    · refine ite_el h (fun _ h => ?_) (fun _ h => ?_)
      · refine chk_el h (fun _ h => ?_)
        refine chk_el h (fun _ h => ?_)
        cases h; rfl
      · cases h; rfl
    · cases h; rfl
theorem al_out {ob : Rec} {x t : Int32} (hn : gI ob 0 = 3) (h : x < 0 ∨ ¬ x < 3) : X_addLiteral ob x t = some (-1, ob) := by
  unfold X_addLiteral
  rw [hn]
  by_cases c : x < 0
  · rw [if_pos c]
  · rw [if_neg c, if_neg (h.resolve_left c)]
theorem law_c (NF : Nat) (i0 i1 i2 i3 i4 i5 j0 j1 j2 j3 j4 j5 : Int32) (A1 : i0 &&& 1 = j0 &&& 1) (A2 : i0 &&& 2 = j0 &&& 2) (A4 : i0 &&& 4 = j0 &&& 4) (H0 : ∀ m : Int32, (m ^^^ i0) &&& 7 = (m ^^^ j0) &&& 7) (H1 : i1 &&& 1 = j1 &&& 1) (H3 : i3 &&& 1 = j3 &&& 1) (H5 : i5 &&& 1 = j5 &&& 1)
    (X : i2 = j2 ∨ ((i2 < 0 ∨ ¬ i2 < 3) ∧ (j2 < 0 ∨ ¬ j2 < 3))) (Y : i4 = j4 ∨ ((i4 < 0 ∨ ¬ i4 < 3) ∧ (j4 < 0 ∨ ¬ j4 < 3))) : L_law NF i0 i1 i2 i3 i4 i5 = L_law NF j0 j1 j2 j3 j4 j5 := by
  have h269 : ∀ (ob : Rec) (i8 i9 t0 t1 : Int32), (i8 = 0 ∨ i2 = j2) → (i9 = 0 ∨ i4 = j4) → L_law_b269 NF ob i0 i1 i2 i3 i4 i5 i8 i9 t0 t1 = L_law_b269 NF ob j0 j1 j2 j3 j4 j5 i8 i9 t0 t1 := by
    intro ob i8 i9 t0 t1 a b; unfold L_law_b269; exact l290_c NF i0 i1 i2 i3 i4 i5 j0 j1 j2 j3 j4 j5 i8 i9 H0 H1 a H3 b H5 NF ob _ _ _ _ _ _ _
  have h251 : ∀ (ob : Rec) (i8 i9 t0 t1 : Int32), (i8 = 0 ∨ i2 = j2) → (i9 = 0 ∨ i4 = j4) → L_law_b251 NF ob i0 i1 i2 i3 i4 i5 i8 i9 t0 t1 = L_law_b251 NF ob j0 j1 j2 j3 j4 j5 i8 i9 t0 t1 := by
    intro ob i8 i9 t0 t1 a b; unfold L_law_b251
    refine bind2_c (fun r q _ => ?_)
    rw [h269 _ _ _ _ _ a b, h269 _ _ _ _ _ a b]
  have h243 : ∀ (ob : Rec) (i8 i9 t0 t1 t2 : Int32), (i8 = 0 ∨ i2 = j2) → (i9 = 0 ∨ i4 = j4) → L_law_b243 NF ob i0 i1 i2 i3 i4 i5 i8 i9 t0 t1 t2 = L_law_b243 NF ob j0 j1 j2 j3 j4 j5 i8 i9 t0 t1 t2 := by
    intro ob i8 i9 t0 t1 t2 a b; unfold L_law_b243
    rw [h251 _ _ _ _ _ a b, h251 _ _ _ _ _ a b]
  have h221 : ∀ (ob : Rec) (i8 i9 t0 x t3 : Int32), (i8 = 0 ∨ i2 = j2) → (i9 = 0 ∨ i4 = j4) → L_law_b221 NF ob i0 i1 i2 i3 i4 i5 i8 i9 t0 x t3 = L_law_b221 NF ob j0 j1 j2 j3 j4 j5 i8 i9 t0 x t3 := by
    intro ob i8 i9 t0 x t3 a b; unfold L_law_b221
    refine bind2_c (fun r q _ => ?_)
    rw [h243 _ _ _ _ _ _ a b, h243 _ _ _ _ _ _ a b, h243 _ _ _ _ _ _ a b]
  have h221' : ∀ (ob : Rec) (i8 i9 t0 t3 : Int32), gI ob 0 = 3 → (i8 = 0 ∨ i2 = j2) → (i9 = 0 ∨ i4 = j4) → L_law_b221 NF ob i0 i1 i2 i3 i4 i5 i8 i9 t0 i4 t3 = L_law_b221 NF ob j0 j1 j2 j3 j4 j5 i8 i9 t0 j4 t3 := by
    intro ob i8 i9 t0 t3 hn a b
    rw [h221 ob i8 i9 t0 i4 t3 a b]
    rcases Y with y | ⟨y, y'⟩
    · rw [y]
    · unfold L_law_b221; rw [al_out hn y, al_out hn y']
  have h200 : ∀ (ob : Rec) (i8 i9 t0 t1 : Int32), gI ob 0 = 3 → (i8 = 0 ∨ i2 = j2) → (i9 = 0 ∨ i4 = j4) → L_law_b200 NF ob i0 i1 i2 i3 i4 i5 i8 i9 t0 t1 = L_law_b200 NF ob j0 j1 j2 j3 j4 j5 i8 i9 t0 t1 := by
    intro ob i8 i9 t0 t1 hn a b; unfold L_law_b200
    rw [h221' ob i8 i9 _ 0 hn a b, h221' ob i8 i9 _ 1 hn a b, H5]
  have h192 : ∀ (ob : Rec) (i8 i9 t0 t1 t2 : Int32), gI ob 0 = 3 → (i8 = 0 ∨ i2 = j2) → (i9 = 0 ∨ i4 = j4) → L_law_b192 NF ob i0 i1 i2 i3 i4 i5 i8 i9 t0 t1 t2 = L_law_b192 NF ob j0 j1 j2 j3 j4 j5 i8 i9 t0 t1 t2 := by
    intro ob i8 i9 t0 t1 t2 hn a b; unfold L_law_b192
    rw [h200 ob i8 i9 _ 0 hn a b, h200 ob i8 i9 _ 1 hn a b]
  have h179 : ∀ (ob : Rec) (i8 i9 t0 x t3 : Int32), gI ob 0 = 3 → (i8 = 0 ∨ i2 = j2) → (i9 = 0 ∨ i4 = j4) → L_law_b179 NF ob i0 i1 i2 i3 i4 i5 i8 i9 t0 x t3 = L_law_b179 NF ob j0 j1 j2 j3 j4 j5 i8 i9 t0 x t3 := by
    intro ob i8 i9 t0 x t3 hn a b; unfold L_law_b179
    refine bind2_c (fun r q h => ?_)
    have hq : gI q 0 = 3 := (al_n h).trans hn
    rw [h192 q i8 i9 _ _ _ hq a b, h192 q i8 i9 _ _ _ hq a b]
  have h179' : ∀ (ob : Rec) (i8 i9 t0 t3 : Int32), gI ob 0 = 3 → (i8 = 0 ∨ i2 = j2) → (i9 = 0 ∨ i4 = j4) → L_law_b179 NF ob i0 i1 i2 i3 i4 i5 i8 i9 t0 i2 t3 = L_law_b179 NF ob j0 j1 j2 j3 j4 j5 i8 i9 t0 j2 t3 := by
    intro ob i8 i9 t0 t3 hn a b
    rw [h179 ob i8 i9 t0 i2 t3 hn a b]
    rcases X with y | ⟨y, y'⟩
    · rw [y]
    · unfold L_law_b179; rw [al_out hn y, al_out hn y']
  have h161 : ∀ (ob : Rec) (i7 i8 t0 : Int32), gI ob 0 = 3 → (i8 = 0 ∨ i2 = j2) → (t0 = 0 ∨ i4 = j4) → L_law_b161 NF ob i0 i1 i2 i3 i4 i5 i7 i8 t0 = L_law_b161 NF ob j0 j1 j2 j3 j4 j5 i7 i8 t0 := by
    intro ob i7 i8 t0 hn a b; unfold L_law_b161
    rw [h179' ob i8 t0 i7 0 hn a b, h179' ob i8 t0 i7 1 hn a b, H3]
  have out3 : ∀ {x : Int32} {A B : Option Int32}, (x < 0 ∨ ¬ x < 3) → (if x < 0 then A else if x < 3 then B else A) = A := by
    intro x A B h
    by_cases c : x < 0
    · rw [if_pos c]
    · rw [if_neg c, if_neg (h.resolve_left c)]
  have h143 : ∀ (ob : Rec) (i7 t0 : Int32), gI ob 0 = 3 → (t0 = 0 ∨ i2 = j2) → L_law_b143 NF ob i0 i1 i2 i3 i4 i5 i7 t0 = L_law_b143 NF ob j0 j1 j2 j3 j4 j5 i7 t0 := by
    intro ob i7 t0 hn a; unfold L_law_b143
    rcases Y with y | ⟨y, y'⟩
    · rw [h161 ob i7 t0 0 hn a (Or.inl rfl), h161 ob i7 t0 1 hn a (Or.inr y), y]
    · rw [out3 y, out3 y', h161 ob i7 t0 0 hn a (Or.inl rfl)]
  have h126 : ∀ (ob : Rec) (t0 t1 : Int32), gI ob 0 = 3 → L_law_b126 NF ob i0 i1 i2 i3 i4 i5 t0 t1 = L_law_b126 NF ob j0 j1 j2 j3 j4 j5 t0 t1 := by
    intro ob t0 t1 hn; unfold L_law_b126
    rcases X with y | ⟨y, y'⟩
    · rw [h143 ob _ 0 hn (Or.inl rfl), h143 ob _ 1 hn (Or.inr y), y]
    · rw [out3 y, out3 y', h143 ob _ 0 hn (Or.inl rfl)]
  have h115 : ∀ (ob : Rec) (t0 t2 : Int32), gI ob 0 = 3 → L_law_b115 NF ob i0 i1 i2 i3 i4 i5 t0 t2 = L_law_b115 NF ob j0 j1 j2 j3 j4 j5 t0 t2 := by
    intro ob t0 t2 hn; unfold L_law_b115
    refine bind2_c (fun r q h => ?_)
    have hq : gI q 0 = 3 := (cx_n h).trans hn
    rw [h126 q _ _ hq, h126 q _ _ hq]
  have h97 : ∀ (ob : Rec) (t0 t1 : Int32), gI ob 0 = 3 → L_law_b97 NF ob i0 i1 i2 i3 i4 i5 t0 t1 = L_law_b97 NF ob j0 j1 j2 j3 j4 j5 t0 t1 := by
    intro ob t0 t1 hn; unfold L_law_b97
    rw [h115 ob _ 0 hn, h115 ob _ 1 hn, H1]
  have h85 : ∀ (ob : Rec) (t0 t2 t3 : Int32), gI ob 0 = 3 → L_law_b85 NF ob i0 i1 i2 i3 i4 i5 t0 t2 t3 = L_law_b85 NF ob j0 j1 j2 j3 j4 j5 t0 t2 t3 := by
    intro ob t0 t2 t3 hn; unfold L_law_b85
    refine bind2_c (fun r q h => ?_)
    have hq : gI q 0 = 3 := (al_n h).trans hn
    rw [h97 q _ _ hq, h97 q _ _ hq]
  have h66 : ∀ (ob : Rec) (t0 t1 : Int32), gI ob 0 = 3 → L_law_b66 NF ob i0 i1 i2 i3 i4 i5 t0 t1 = L_law_b66 NF ob j0 j1 j2 j3 j4 j5 t0 t1 := by
    intro ob t0 t1 hn; unfold L_law_b66
    rw [h85 ob _ _ 0 hn, h85 ob _ _ 1 hn, A4]
  have h54 : ∀ (ob : Rec) (t0 t2 t3 : Int32), gI ob 0 = 3 → L_law_b54 NF ob i0 i1 i2 i3 i4 i5 t0 t2 t3 = L_law_b54 NF ob j0 j1 j2 j3 j4 j5 t0 t2 t3 := by
    intro ob t0 t2 t3 hn; unfold L_law_b54
    refine bind2_c (fun r q h => ?_)
    have hq : gI q 0 = 3 := (al_n h).trans hn
    rw [h66 q _ _ hq, h66 q _ _ hq]
  have h36 : ∀ (ob : Rec) (t0 : Int32), gI ob 0 = 3 → L_law_b36 NF ob i0 i1 i2 i3 i4 i5 t0 = L_law_b36 NF ob j0 j1 j2 j3 j4 j5 t0 := by
    intro ob t0 hn; unfold L_law_b36
    rw [h54 ob _ _ 0 hn, h54 ob _ _ 1 hn, A2]
  have h24 : ∀ (ob : Rec) (t1 t2 : Int32), gI ob 0 = 3 → L_law_b24 NF ob i0 i1 i2 i3 i4 i5 t1 t2 = L_law_b24 NF ob j0 j1 j2 j3 j4 j5 t1 t2 := by
    intro ob t1 t2 hn; unfold L_law_b24
    refine bind2_c (fun r q h => ?_)
    have hq : gI q 0 = 3 := (al_n h).trans hn
    rw [h36 q _ hq, h36 q _ hq]
  obtain ⟨Q, eQ, hQ⟩ : ∃ Q, X_init 3 = some Q ∧ gI Q 0 = 3 := ⟨_, rfl, rfl⟩
  unfold L_law
  rw [eQ, Option.bind_some, Option.bind_some, h24 Q _ _ hQ, h24 Q _ _ hQ, A1]
set_option maxHeartbeats 0 in
theorem al0 : ∀ i1 ∈ ([0, 1] : List Int32), ∀ x ∈ ([-1, 0, 1, 2] : List Int32), ∀ xn ∈ ([0, 1] : List Int32), ∀ y ∈ ([-1, 0, 1, 2] : List Int32), ∀ yn ∈ ([0, 1] : List Int32), L_law 40 0 i1 x xn y yn = some 1 := by decide +kernel
set_option maxHeartbeats 0 in
theorem al1 : ∀ i1 ∈ ([0, 1] : List Int32), ∀ x ∈ ([-1, 0, 1, 2] : List Int32), ∀ xn ∈ ([0, 1] : List Int32), ∀ y ∈ ([-1, 0, 1, 2] : List Int32), ∀ yn ∈ ([0, 1] : List Int32), L_law 40 1 i1 x xn y yn = some 1 := by decide +kernel
set_option maxHeartbeats 0 in
theorem al2 : ∀ i1 ∈ ([0, 1] : List Int32), ∀ x ∈ ([-1, 0, 1, 2] : List Int32), ∀ xn ∈ ([0, 1] : List Int32), ∀ y ∈ ([-1, 0, 1, 2] : List Int32), ∀ yn ∈ ([0, 1] : List Int32), L_law 40 2 i1 x xn y yn = some 1 := by decide +kernel
set_option maxHeartbeats 0 in
theorem al3 : ∀ i1 ∈ ([0, 1] : List Int32), ∀ x ∈ ([-1, 0, 1, 2] : List Int32), ∀ xn ∈ ([0, 1] : List Int32), ∀ y ∈ ([-1, 0, 1, 2] : List Int32), ∀ yn ∈ ([0, 1] : List Int32), L_law 40 3 i1 x xn y yn = some 1 := by decide +kernel
set_option maxHeartbeats 0 in
theorem al4 : ∀ i1 ∈ ([0, 1] : List Int32), ∀ x ∈ ([-1, 0, 1, 2] : List Int32), ∀ xn ∈ ([0, 1] : List Int32), ∀ y ∈ ([-1, 0, 1, 2] : List Int32), ∀ yn ∈ ([0, 1] : List Int32), L_law 40 4 i1 x xn y yn = some 1 := by decide +kernel
set_option maxHeartbeats 0 in
theorem al5 : ∀ i1 ∈ ([0, 1] : List Int32), ∀ x ∈ ([-1, 0, 1, 2] : List Int32), ∀ xn ∈ ([0, 1] : List Int32), ∀ y ∈ ([-1, 0, 1, 2] : List Int32), ∀ yn ∈ ([0, 1] : List Int32), L_law 40 5 i1 x xn y yn = some 1 := by decide +kernel
set_option maxHeartbeats 0 in
theorem al6 : ∀ i1 ∈ ([0, 1] : List Int32), ∀ x ∈ ([-1, 0, 1, 2] : List Int32), ∀ xn ∈ ([0, 1] : List Int32), ∀ y ∈ ([-1, 0, 1, 2] : List Int32), ∀ yn ∈ ([0, 1] : List Int32), L_law 40 6 i1 x xn y yn = some 1 := by decide +kernel
set_option maxHeartbeats 0 in
theorem al7 : ∀ i1 ∈ ([0, 1] : List Int32), ∀ x ∈ ([-1, 0, 1, 2] : List Int32), ∀ xn ∈ ([0, 1] : List Int32), ∀ y ∈ ([-1, 0, 1, 2] : List Int32), ∀ yn ∈ ([0, 1] : List Int32), L_law 40 7 i1 x xn y yn = some 1 := by decide +kernel
theorem all0 : ∀ i0 ∈ ([0, 1, 2, 3, 4, 5, 6, 7] : List Int32), ∀ i1 ∈ ([0, 1] : List Int32), ∀ x ∈ ([-1, 0, 1, 2] : List Int32), ∀ xn ∈ ([0, 1] : List Int32), ∀ y ∈ ([-1, 0, 1, 2] : List Int32), ∀ yn ∈ ([0, 1] : List Int32), L_law 40 i0 i1 x xn y yn = some 1 := by
  intro c hc
  simp only [List.mem_cons, List.not_mem_nil, or_false] at hc
  rcases hc with rfl | rfl | rfl | rfl | rfl | rfl | rfl | rfl
  · exact al0
  · exact al1
  · exact al2
  · exact al3
  · exact al4
  · exact al5
  · exact al6
  · exact al7
theorem xin (x : Int32) : ∃ j ∈ ([-1, 0, 1, 2] : List Int32), x = j ∨ ((x < 0 ∨ ¬ x < 3) ∧ (j < 0 ∨ ¬ j < 3)) := by
  by_cases c : x < 0 ∨ ¬ x < 3
  · exact ⟨-1, by decide, Or.inr ⟨c, Or.inl (by decide)⟩⟩
  · refine ⟨x, ?_, Or.inl rfl⟩
    simp only [lt_i, Int32.reduceToInt] at c
    simp only [List.mem_cons, eq_i32, Int32.reduceToInt, List.not_mem_nil, or_false]
    omega
theorem owed : ∀ i0 i1 i2 i3 i4 i5 : Int32, ∃ NF : Nat, L_law NF i0 i1 i2 i3 i4 i5 = some 1 := by
  intro i0 i1 i2 i3 i4 i5
  refine ⟨40, ?_⟩
  obtain ⟨x, hx, X⟩ := xin i2
  obtain ⟨y, hy, Y⟩ := xin i4
  rw [law_c 40 i0 i1 i2 i3 i4 i5 (i0 &&& 7) (i1 &&& 1) x (i3 &&& 1) y (i5 &&& 1) (aa i0 1 (by decide)) (aa i0 2 (by decide)) (aa i0 4 (by decide)) (fun m => x7 m i0) (by rw [Int32.and_assoc]; rfl) (by rw [Int32.and_assoc]; rfl) (by rw [Int32.and_assoc]; rfl) X Y]
  exact all0 _ (mem8 i0) _ (mem2 i1) x hx _ (mem2 i3) y hy _ (mem2 i5)
-- owed : ∀ i0 i1 i2 i3 i4 i5 : Int32, ∃ NF : Nat, L_law NF i0 i1 i2 i3 i4 i5 = some 1
--COMES--
set_option maxRecDepth 65536 in
set_option maxHeartbeats 4000000 in
theorem comes_1 {Post : Tables → Env → Array Value → State → Outcome → State → Prop} (hpost : ∀ tb e args s v u, (limb_1_1.after args s (.returned v) u = true ∧ limb_1_2.after args s (.returned v) u = true ∧ True) → FrameEnd s (.returned v) u (Jvm.fieldLocs frame_1_writes args s ++ Jvm.arrayLocs frame_1_arrays args s ++ Jvm.staticLocs frame_1_statics s) 48 704 → Post tb e args s (.returned v) u) :
    ArmFor flags0 classFile x code maxLocals ret World_1 tables_1 room_1 Calls_1 rest_1 Pre_1 Post := by
  intro l hfl _ _ p e ha hc hk s m args below hf hA hF happ hP
  obtain ⟨hcalls, hrest, hpre⟩ := hP
  obtain ⟨-, -, -, hnamed, -, -, -, hat⟩ := (Spec.applies_iff hf).mp happ
  obtain ⟨hg, hn⟩ := and_e (Cond.before_iff.mp (show (Jvm.Cond.and given_1 narrow_1).before args s = true from hpre))
  obtain ⟨hcnt, hg⟩ := and_e hg
  obtain ⟨w0, w1, w2, w3, w4, w5, rfl⟩ : ∃ w0 w1 w2 w3 w4 w5 : Value, args = #[w0, w1, w2, w3, w4, w5] := by
    have hs : args.size = 6 := by simpa [Cond.value, given_1] using hcnt
    obtain ⟨L⟩ := args
    match L, hs with
    | [w0, w1, w2, w3, w4, w5], _ => exact ⟨w0, w1, w2, w3, w4, w5, rfl⟩
  have hw := fun d (hd : d ∈ tables_1) => atoms_spec (ws := Jvm.Cond.code x code maxLocals ret :: tables_1) hat d (List.mem_cons_of_mem _ hd)
  have hfit : Fit s := fun {y c} hc i hi => by
    obtain ⟨ha, rfl⟩ := Array.getElem?_eq_some_iff.mp hc
    have q := List.all_eq_true.mp ((Array.all_eq_true_iff_forall_mem.mp hF) _ (Array.getElem_mem ha)) i (List.mem_range.mpr hi)
    simpa [Array.getElem?_eq_getElem hi] using q
  obtain ⟨h0, hg⟩ := and_e hg
  obtain ⟨i0, e0⟩ := is_v h0
  obtain rfl : w0 = (.int i0) := Option.some.inj e0
  obtain ⟨h1, hg⟩ := and_e hg
  obtain ⟨i1, e1⟩ := is_v h1
  obtain rfl : w1 = (.int i1) := Option.some.inj e1
  obtain ⟨h2, hg⟩ := and_e hg
  obtain ⟨i2, e2⟩ := is_v h2
  obtain rfl : w2 = (.int i2) := Option.some.inj e2
  obtain ⟨h3, hg⟩ := and_e hg
  obtain ⟨i3, e3⟩ := is_v h3
  obtain rfl : w3 = (.int i3) := Option.some.inj e3
  obtain ⟨h4, hg⟩ := and_e hg
  obtain ⟨i4, e4⟩ := is_v h4
  obtain rfl : w4 = (.int i4) := Option.some.inj e4
  have h5 := hg
  obtain ⟨i5, e5⟩ := is_v h5
  obtain rfl : w5 = (.int i5) := Option.some.inj e5
  obtain ⟨NF, hlaw⟩ := owed i0 i1 i2 i3 i4 i5
  have hp := L_law_pay (C := (l, s, s.heap.size, #[.int i0, .int i1, .int i2, .int i3, .int i4, .int i5])) hlaw hw s.heap (Rep.start s) tables_1
  obtain ⟨n, o, h1, h2, h3, v, L, rfl, ⟨N, G', -, rfl⟩, hq⟩ := hp p e ha hc hk s m _ below hf ((Spec.applies_iff_loose hf).mp happ).1 ⟨rfl, State.Warmed39.refl s, rfl⟩ trivial
  refine ⟨n, _, h1, h2, h3, hpost _ _ _ _ _ _ ⟨Cond.after_iff.mpr rfl, Cond.after_iff.mpr (eq_i res_at (Term.int_eval (1)) rfl), trivial⟩ ⟨hq.1, hq.2.1, (hq.2.2.sift fun y hy => Or.inr (N y hy)).mono (by decide) (by decide)⟩⟩
theorem main_1_1 : Claimed_1_1 := comes_1 fun _ _ _ _ _ _ h hF => ⟨h.1, hF⟩
theorem main_1_2 : Claimed_1_2 := comes_1 fun _ _ _ _ _ _ h hF => ⟨h.2.1, hF⟩
end Jvm.Pilot.@@N@@
namespace Jvm.Pilot.@@N@@
open Jvm Jvm.ClassFile Sem Op Lib Jvm.Free Jvm.Stand Jvm.Pilot.@@N@@.Jvm.D
/-! MADE BY PROGRAM (witnessworld.py) out of the Statement's table words and the real class files: 11 classes; the members and pool entries that the words name. The judged class is class 1, her method 1. -/
namespace start1
open Jvm.ClassFile
def u (s : String) : CpInfo := .utf8 (stringToUtf16 s)
/-- a pool by its gaps: so many unusable entries, then the entry; so many at the end -/
def gap : Nat → List CpInfo → List CpInfo
  | 0, r => r
  | n + 1, r => .unusable :: gap n r
def poolList (es : List (Nat × CpInfo)) (last : Nat) : List CpInfo := es.foldr (fun e r => gap e.1 (e.2 :: r)) (gap last [])
def pool (es : List (Nat × CpInfo)) (last : Nat) : Array CpInfo := ⟨poolList es last⟩
def fileOf (pool : Array CpInfo) (this : Nat) (attrs : Array Attribute := #[]) (ms : Array MethodInfo := #[]) (fl : Nat := 33) (sup : Nat := 0) (ifs : Array Nat := #[]) (fds : Array FieldInfo := #[]) : ClassFile where
  minorVersion := 0
  majorVersion := 65
  constantPool := pool
  accessFlags := fl
  thisClass := this
  superClass := sup
  interfaces := ifs
  fields := fds
  methods := ms
  attributes := attrs
def plain (name : String) (sup : Option ClassId) : Class where
  name := name
  kind := .ordinary
  loader := none
  accessFlags := 33
  super := sup
  interfaces := #[]
  cf := none
  fields := #[]
  methods := #[]
  instanceTypes := #[]
  staticTypes := #[]
  resolved := #[]
  callSites := []
  init := .initialized
  statics := none
  mirror := none

def pool0 : Array CpInfo := pool [(5, u "<init>"), (0, u "()V"), (1, .class_ 10), (1, u "java/lang/Object")] 113

def k0c0 : Code := { maxStack := 0, maxLocals := 1, code := object_method_1_code, exceptionTable := #[], attributes := #[] }
def k0m0 : Method := { name := "<init>", desc := "()V", sig := { parameters := [], returnType := none }, accessFlags := 1, code := some k0c0 }
/-- java/lang/Object -/
def k0 : Class := { plain "java/lang/Object" none with
  accessFlags := 33
  interfaces := #[]
  cf := some (fileOf pool0 8 #[] #[{ accessFlags := 1, nameIndex := 5, descriptorIndex := 6, attributes := #[] }] 33 0 #[] #[])
  fields := #[]
  methods := #[k0m0]
  instanceTypes := #[]
  staticTypes := #[]
  resolved := Array.replicate 124 none
  statics := none }

def pool1 : Array CpInfo := pool [(2, .class_ 4), (1, u "java/lang/Object"), (0, u "<init>"), (0, u "()V"), (0, .class_ 8), (0, u "XorGaussSat"), (0, .methodref 7 10), (0, .nameAndType 5 11), (0, u "(I)V"), (0, .methodref 7 13), (0, .nameAndType 14 15), (0, u "addLiteral"), (0, u "(IZ)I"), (0, .methodref 7 17), (0, .nameAndType 18 19), (0, u "commitXor"), (0, u "(Z)I"), (0, .methodref 7 21), (0, .nameAndType 22 23), (0, u "commitClause"), (0, u "()I"), (0, .methodref 7 25), (0, .nameAndType 26 23), (0, u "solve"), (0, .methodref 7 28), (0, .nameAndType 29 23), (0, u "status"), (0, .methodref 7 31), (0, .nameAndType 32 23), (0, u "modelBits"), (0, .methodref 7 34), (0, .nameAndType 35 36), (0, u "value"), (0, u "(I)I"), (0, .methodref 7 38), (0, .nameAndType 39 23), (0, u "countModels"), (0, .methodref 7 41), (0, .nameAndType 42 36), (0, u "backbone"), (0, .methodref 44 45), (0, .class_ 46), (0, .nameAndType 47 48), (0, u "XorGaussSatL3"), (0, u "bb"), (0, u "(II)I"), (2, u "law"), (0, u "(IIIIII)Z")] 3

def k1m0 : Method := { name := "<init>", desc := "()V", sig := { parameters := [], returnType := none }, accessFlags := 1, code := none }
def k1c1 : Code := { maxStack := 5, maxLocals := 20, code := code, exceptionTable := #[], attributes := #[] }
def k1m1 : Method := { name := "law", desc := "(IIIIII)Z", sig := { parameters := [.int, .int, .int, .int, .int, .int], returnType := some .boolean }, accessFlags := 9, code := some k1c1 }
def k1c2 : Code := { maxStack := 2, maxLocals := 2, code := method_3_code, exceptionTable := #[], attributes := #[] }
def k1m2 : Method := { name := "bb", desc := "(II)I", sig := { parameters := [.int, .int], returnType := some .int }, accessFlags := 10, code := some k1c2 }
/-- XorGaussSatL3 -/
def k1 : Class := { plain "XorGaussSatL3" (some 0) with
  accessFlags := 49
  interfaces := #[]
  cf := some (fileOf pool1 44 #[] #[{ accessFlags := 1, nameIndex := 5, descriptorIndex := 6, attributes := #[] }, { accessFlags := 9, nameIndex := 51, descriptorIndex := 52, attributes := #[] }, { accessFlags := 10, nameIndex := 47, descriptorIndex := 48, attributes := #[] }] 49 2 #[] #[])
  fields := #[]
  methods := #[k1m0, k1m1, k1m2]
  instanceTypes := #[]
  staticTypes := #[]
  resolved := Array.replicate 56 none
  statics := none }

def pool2 : Array CpInfo := pool [(1, .methodref 2 3), (0, .class_ 4), (0, .nameAndType 5 6), (0, u "java/lang/Object"), (0, u "<init>"), (0, u "()V"), (0, .fieldref 8 9), (0, .class_ 10), (0, .nameAndType 11 12), (0, u "XorGaussSat"), (0, u "pendVar"), (0, u "[I"), (0, .fieldref 8 14), (0, .nameAndType 15 16), (0, u "pendNeg"), (0, u "[Z"), (0, .fieldref 8 18), (0, .nameAndType 19 12), (0, u "clausePos"), (0, .fieldref 8 21), (0, .nameAndType 22 12), (0, u "clauseNeg"), (0, .fieldref 8 24), (0, .nameAndType 25 12), (0, u "xorMask"), (0, .fieldref 8 27), (0, .nameAndType 28 12), (0, u "xorRhs"), (0, .fieldref 8 30), (0, .nameAndType 31 12), (0, u "order"), (0, .fieldref 8 33), (0, .nameAndType 34 12), (0, u "echMask"), (0, .fieldref 8 36), (0, .nameAndType 37 12), (0, u "echRhs"), (0, .fieldref 8 39), (0, .nameAndType 40 12), (0, u "echPivot"), (0, .fieldref 8 42), (0, .nameAndType 43 12), (0, u "gMask"), (0, .fieldref 8 45), (0, .nameAndType 46 12), (0, u "gRhs"), (0, .fieldref 8 48), (0, .nameAndType 49 12), (0, u "gPivot"), (0, .fieldref 8 51), (0, .nameAndType 52 12), (0, u "trail"), (0, .fieldref 8 54), (0, .nameAndType 55 12), (0, u "lvlVar"), (0, .fieldref 8 57), (0, .nameAndType 58 12), (0, u "lvlStart"), (0, .fieldref 8 60), (0, .nameAndType 61 16), (0, u "lvlFlipped"), (0, .fieldref 8 63), (0, .nameAndType 64 65), (0, u "n"), (0, u "I"), (0, .fieldref 8 67), (0, .nameAndType 68 65), (0, u "fullMask"), (0, .fieldref 8 70), (0, .nameAndType 71 65), (0, u "status"), (0, .fieldref 8 73), (0, .nameAndType 74 65), (0, u "model"), (0, .fieldref 8 76), (0, .nameAndType 77 65), (0, u "pendLen"), (0, .fieldref 8 79), (0, .nameAndType 80 65), (0, u "clauseCnt"), (0, .fieldref 8 82), (0, .nameAndType 83 65), (0, u "xorCnt"), (0, .fieldref 8 85), (0, .nameAndType 86 65), (0, u "orderLen"), (0, .fieldref 8 88), (0, .nameAndType 89 90), (0, u "echValid"), (0, u "Z"), (0, .fieldref 8 92), (0, .nameAndType 93 90), (0, u "echConsistent"), (0, .fieldref 8 95), (0, .nameAndType 96 65), (0, u "echRank"), (0, .methodref 8 98), (0, .nameAndType 99 100), (0, u "pendingMask"), (0, u "(Z)I"), (0, .methodref 8 102), (0, .nameAndType 103 104), (0, u "pushOrder"), (0, u "(I)V"), (0, .methodref 8 106), (0, .nameAndType 107 108), (0, u "pendingNegatedParity"), (0, u "()I"), (0, .methodref 8 110), (0, .nameAndType 111 108), (0, u "pendingXorMask"), (0, .methodref 8 113), (0, .nameAndType 114 115), (0, u "search"), (0, u "(II)Z"), (0, .fieldref 8 117), (0, .nameAndType 118 65), (0, u "found"), (0, .methodref 8 120), (0, .nameAndType 121 115), (0, u "clauseHolds"), (0, .methodref 8 123), (0, .nameAndType 124 115), (0, u "xorHolds"), (0, .methodref 8 126), (0, .nameAndType 127 6), (0, u "ensureEchelon"), (0, .methodref 8 129), (0, .nameAndType 130 108), (0, u "echPivotMask"), (3, u "(I)I"), (0, .methodref 8 136), (0, .nameAndType 137 134), (0, u "countAffinePoints"), (0, .methodref 8 139), (0, .nameAndType 140 134), (0, u "parity"), (0, .fieldref 8 142), (0, .nameAndType 143 65), (0, u "gRank"), (0, .methodref 8 145), (0, .nameAndType 146 134), (0, u "findPivot"), (0, .methodref 8 148), (0, .nameAndType 149 150), (0, u "swapRows"), (0, u "(II)V"), (0, .methodref 8 152), (0, .nameAndType 153 150), (0, u "clearColumn"), (0, .fieldref 8 155), (0, .nameAndType 156 65), (0, u "gRows"), (0, .methodref 8 158), (0, .nameAndType 159 6), (0, u "eliminate"), (0, .methodref 8 161), (0, .nameAndType 162 163), (0, u "scratchConsistent"), (0, u "()Z"), (0, .methodref 8 165), (0, .nameAndType 166 134), (0, u "completeFromFree"), (0, .methodref 8 168), (0, .nameAndType 169 170), (0, u "allClausesHold"), (0, u "(I)Z"), (0, .methodref 8 172), (0, .nameAndType 173 6), (0, u "resetSearch"), (0, .methodref 8 175), (0, .nameAndType 176 150), (0, u "assign"), (0, .methodref 8 178), (0, .nameAndType 179 163), (0, u "propagate"), (0, .methodref 8 181), (0, .nameAndType 182 163), (0, u "backtrack"), (0, .fieldref 8 184), (0, .nameAndType 185 65), (0, u "asgMask"), (0, .fieldref 8 187), (0, .nameAndType 188 65), (0, u "asgVals"), (0, .methodref 8 190), (0, .nameAndType 191 134), (0, u "violations"), (0, .methodref 8 193), (0, .nameAndType 194 6), (0, u "decide"), (0, .fieldref 8 196), (0, .nameAndType 197 65), (0, u "trailLen"), (0, .fieldref 8 199), (0, .nameAndType 200 65), (0, u "lvlCnt"), (0, .methodref 8 202), (0, .nameAndType 203 108), (0, u "lowestUnassigned"), (0, .methodref 8 205), (0, .nameAndType 206 104), (0, u "undoTo"), (0, .methodref 8 208), (0, .nameAndType 209 163), (0, u "propagateClauses"), (0, .methodref 8 211), (0, .nameAndType 212 163), (0, u "propagateXors"), (0, .methodref 8 214), (0, .nameAndType 215 170), (0, u "propagateClause"), (0, .methodref 8 217), (0, .nameAndType 218 170), (0, u "isSingleBit"), (0, .methodref 8 220), (0, .nameAndType 221 134), (0, u "lowestBit"), (0, .methodref 8 223), (0, .nameAndType 224 6), (0, u "loadResidualRows"), (0, u "UNSAT"), (2, u "SAT"), (1, u "UNKNOWN"), (1, u "KIND_CLAUSE"), (0, u "KIND_XOR"), (0, u "BB_FALSE"), (0, u "BB_TRUE"), (0, u "BB_FREE"), (0, u "BB_NONE"), (1, u "ERR_RANGE"), (1, u "ERR_FULL"), (1, u "ERR_EMPTY"), (1, u "MIN_VARS"), (0, u "MAX_VARS"), (1, u "MAX_PENDING"), (1, u "MAX_CLAUSES"), (1, u "MAX_XORS"), (5, u "addLiteral"), (0, u "(IZ)I"), (2, u "commitClause"), (0, u "commitXor"), (3, u "solve"), (0, u "value"), (0, u "modelBits"), (0, u "countModels"), (0, u "backbone")] 2

def k2c0 : Code := { maxStack := 3, maxLocals := 3, code := prog_1_method_1_code, exceptionTable := #[], attributes := #[] }
def k2m0 : Method := { name := "<init>", desc := "(I)V", sig := { parameters := [.int], returnType := none }, accessFlags := 1, code := some k2c0 }
def k2c1 : Code := { maxStack := 3, maxLocals := 3, code := prog_1_method_3_code, exceptionTable := #[], attributes := #[] }
def k2m1 : Method := { name := "addLiteral", desc := "(IZ)I", sig := { parameters := [.int, .boolean], returnType := some .int }, accessFlags := 1, code := some k2c1 }
def k2c2 : Code := { maxStack := 4, maxLocals := 2, code := prog_1_method_6_code, exceptionTable := #[], attributes := #[] }
def k2m2 : Method := { name := "commitClause", desc := "()I", sig := { parameters := [], returnType := some .int }, accessFlags := 1, code := some k2c2 }
def k2c3 : Code := { maxStack := 3, maxLocals := 4, code := prog_1_method_7_code, exceptionTable := #[], attributes := #[] }
def k2m3 : Method := { name := "commitXor", desc := "(Z)I", sig := { parameters := [.boolean], returnType := some .int }, accessFlags := 1, code := some k2c3 }
def k2c4 : Code := { maxStack := 3, maxLocals := 1, code := prog_1_method_11_code, exceptionTable := #[], attributes := #[] }
def k2m4 : Method := { name := "solve", desc := "()I", sig := { parameters := [], returnType := some .int }, accessFlags := 1, code := some k2c4 }
def k2c5 : Code := { maxStack := 1, maxLocals := 1, code := prog_1_method_12_code, exceptionTable := #[], attributes := #[] }
def k2m5 : Method := { name := "status", desc := "()I", sig := { parameters := [], returnType := some .int }, accessFlags := 1, code := some k2c5 }
def k2c6 : Code := { maxStack := 2, maxLocals := 2, code := prog_1_method_13_code, exceptionTable := #[], attributes := #[] }
def k2m6 : Method := { name := "value", desc := "(I)I", sig := { parameters := [.int], returnType := some .int }, accessFlags := 1, code := some k2c6 }
def k2c7 : Code := { maxStack := 2, maxLocals := 1, code := prog_1_method_14_code, exceptionTable := #[], attributes := #[] }
def k2m7 : Method := { name := "modelBits", desc := "()I", sig := { parameters := [], returnType := some .int }, accessFlags := 1, code := some k2c7 }
def k2c8 : Code := { maxStack := 3, maxLocals := 5, code := prog_1_method_15_code, exceptionTable := #[], attributes := #[] }
def k2m8 : Method := { name := "violations", desc := "(I)I", sig := { parameters := [.int], returnType := some .int }, accessFlags := 1, code := some k2c8 }
def k2c9 : Code := { maxStack := 3, maxLocals := 3, code := prog_1_method_16_code, exceptionTable := #[], attributes := #[] }
def k2m9 : Method := { name := "countModels", desc := "()I", sig := { parameters := [], returnType := some .int }, accessFlags := 1, code := some k2c9 }
def k2c10 : Code := { maxStack := 4, maxLocals := 4, code := prog_1_method_17_code, exceptionTable := #[], attributes := #[] }
def k2m10 : Method := { name := "backbone", desc := "(I)I", sig := { parameters := [.int], returnType := some .int }, accessFlags := 1, code := some k2c10 }
def k2c11 : Code := { maxStack := 4, maxLocals := 4, code := prog_1_method_18_code, exceptionTable := #[], attributes := #[] }
def k2m11 : Method := { name := "pendingMask", desc := "(Z)I", sig := { parameters := [.boolean], returnType := some .int }, accessFlags := 2, code := some k2c11 }
def k2c12 : Code := { maxStack := 4, maxLocals := 3, code := prog_1_method_19_code, exceptionTable := #[], attributes := #[] }
def k2m12 : Method := { name := "pendingXorMask", desc := "()I", sig := { parameters := [], returnType := some .int }, accessFlags := 2, code := some k2c12 }
def k2c13 : Code := { maxStack := 2, maxLocals := 3, code := prog_1_method_20_code, exceptionTable := #[], attributes := #[] }
def k2m13 : Method := { name := "pendingNegatedParity", desc := "()I", sig := { parameters := [], returnType := some .int }, accessFlags := 2, code := some k2c13 }
def k2c14 : Code := { maxStack := 3, maxLocals := 2, code := prog_1_method_21_code, exceptionTable := #[], attributes := #[] }
def k2m14 : Method := { name := "pushOrder", desc := "(I)V", sig := { parameters := [.int], returnType := none }, accessFlags := 2, code := some k2c14 }
def k2c15 : Code := { maxStack := 4, maxLocals := 4, code := prog_1_method_22_code, exceptionTable := #[], attributes := #[] }
def k2m15 : Method := { name := "clauseHolds", desc := "(II)Z", sig := { parameters := [.int, .int], returnType := some .boolean }, accessFlags := 2, code := some k2c15 }
def k2c16 : Code := { maxStack := 4, maxLocals := 4, code := prog_1_method_23_code, exceptionTable := #[], attributes := #[] }
def k2m16 : Method := { name := "xorHolds", desc := "(II)Z", sig := { parameters := [.int, .int], returnType := some .boolean }, accessFlags := 2, code := some k2c16 }
def k2c17 : Code := { maxStack := 3, maxLocals := 3, code := prog_1_method_24_code, exceptionTable := #[], attributes := #[] }
def k2m17 : Method := { name := "allClausesHold", desc := "(I)Z", sig := { parameters := [.int], returnType := some .boolean }, accessFlags := 2, code := some k2c17 }
def k2c18 : Code := { maxStack := 3, maxLocals := 3, code := prog_1_method_25_code, exceptionTable := #[], attributes := #[] }
def k2m18 : Method := { name := "parity", desc := "(I)I", sig := { parameters := [.int], returnType := some .int }, accessFlags := 2, code := some k2c18 }
def k2c19 : Code := { maxStack := 2, maxLocals := 3, code := prog_1_method_27_code, exceptionTable := #[], attributes := #[] }
def k2m19 : Method := { name := "lowestBit", desc := "(I)I", sig := { parameters := [.int], returnType := some .int }, accessFlags := 2, code := some k2c19 }
def k2c20 : Code := { maxStack := 3, maxLocals := 2, code := prog_1_method_28_code, exceptionTable := #[], attributes := #[] }
def k2m20 : Method := { name := "isSingleBit", desc := "(I)Z", sig := { parameters := [.int], returnType := some .boolean }, accessFlags := 2, code := some k2c20 }
def k2c21 : Code := { maxStack := 3, maxLocals := 3, code := prog_1_method_29_code, exceptionTable := #[], attributes := #[] }
def k2m21 : Method := { name := "eliminate", desc := "()V", sig := { parameters := [], returnType := none }, accessFlags := 2, code := some k2c21 }
def k2c22 : Code := { maxStack := 2, maxLocals := 4, code := prog_1_method_30_code, exceptionTable := #[], attributes := #[] }
def k2m22 : Method := { name := "findPivot", desc := "(I)I", sig := { parameters := [.int], returnType := some .int }, accessFlags := 2, code := some k2c22 }
def k2c23 : Code := { maxStack := 4, maxLocals := 5, code := prog_1_method_31_code, exceptionTable := #[], attributes := #[] }
def k2m23 : Method := { name := "swapRows", desc := "(II)V", sig := { parameters := [.int, .int], returnType := none }, accessFlags := 2, code := some k2c23 }
def k2c24 : Code := { maxStack := 5, maxLocals := 5, code := prog_1_method_32_code, exceptionTable := #[], attributes := #[] }
def k2m24 : Method := { name := "clearColumn", desc := "(II)V", sig := { parameters := [.int, .int], returnType := none }, accessFlags := 2, code := some k2c24 }
def k2c25 : Code := { maxStack := 2, maxLocals := 2, code := prog_1_method_33_code, exceptionTable := #[], attributes := #[] }
def k2m25 : Method := { name := "scratchConsistent", desc := "()Z", sig := { parameters := [], returnType := some .boolean }, accessFlags := 2, code := some k2c25 }
def k2c26 : Code := { maxStack := 4, maxLocals := 2, code := prog_1_method_34_code, exceptionTable := #[], attributes := #[] }
def k2m26 : Method := { name := "ensureEchelon", desc := "()V", sig := { parameters := [], returnType := none }, accessFlags := 2, code := some k2c26 }
def k2c27 : Code := { maxStack := 4, maxLocals := 3, code := prog_1_method_35_code, exceptionTable := #[], attributes := #[] }
def k2m27 : Method := { name := "echPivotMask", desc := "()I", sig := { parameters := [], returnType := some .int }, accessFlags := 2, code := some k2c27 }
def k2c28 : Code := { maxStack := 4, maxLocals := 7, code := prog_1_method_36_code, exceptionTable := #[], attributes := #[] }
def k2m28 : Method := { name := "completeFromFree", desc := "(I)I", sig := { parameters := [.int], returnType := some .int }, accessFlags := 2, code := some k2c28 }
def k2c29 : Code := { maxStack := 2, maxLocals := 6, code := prog_1_method_37_code, exceptionTable := #[], attributes := #[] }
def k2m29 : Method := { name := "countAffinePoints", desc := "(I)I", sig := { parameters := [.int], returnType := some .int }, accessFlags := 2, code := some k2c29 }
def k2c30 : Code := { maxStack := 3, maxLocals := 4, code := prog_1_method_38_code, exceptionTable := #[], attributes := #[] }
def k2m30 : Method := { name := "search", desc := "(II)Z", sig := { parameters := [.int, .int], returnType := some .boolean }, accessFlags := 2, code := some k2c30 }
def k2c31 : Code := { maxStack := 2, maxLocals := 1, code := prog_1_method_39_code, exceptionTable := #[], attributes := #[] }
def k2m31 : Method := { name := "resetSearch", desc := "()V", sig := { parameters := [], returnType := none }, accessFlags := 2, code := some k2c31 }
def k2c32 : Code := { maxStack := 4, maxLocals := 4, code := prog_1_method_40_code, exceptionTable := #[], attributes := #[] }
def k2m32 : Method := { name := "assign", desc := "(II)V", sig := { parameters := [.int, .int], returnType := none }, accessFlags := 2, code := some k2c32 }
def k2c33 : Code := { maxStack := 4, maxLocals := 5, code := prog_1_method_41_code, exceptionTable := #[], attributes := #[] }
def k2m33 : Method := { name := "undoTo", desc := "(I)V", sig := { parameters := [.int], returnType := none }, accessFlags := 2, code := some k2c33 }
def k2c34 : Code := { maxStack := 2, maxLocals := 2, code := prog_1_method_42_code, exceptionTable := #[], attributes := #[] }
def k2m34 : Method := { name := "lowestUnassigned", desc := "()I", sig := { parameters := [], returnType := some .int }, accessFlags := 2, code := some k2c34 }
def k2c35 : Code := { maxStack := 3, maxLocals := 2, code := prog_1_method_43_code, exceptionTable := #[], attributes := #[] }
def k2m35 : Method := { name := "decide", desc := "()V", sig := { parameters := [], returnType := none }, accessFlags := 2, code := some k2c35 }
def k2c36 : Code := { maxStack := 3, maxLocals := 3, code := prog_1_method_44_code, exceptionTable := #[], attributes := #[] }
def k2m36 : Method := { name := "backtrack", desc := "()Z", sig := { parameters := [], returnType := some .boolean }, accessFlags := 2, code := some k2c36 }
def k2c37 : Code := { maxStack := 2, maxLocals := 3, code := prog_1_method_45_code, exceptionTable := #[], attributes := #[] }
def k2m37 : Method := { name := "propagate", desc := "()Z", sig := { parameters := [], returnType := some .boolean }, accessFlags := 2, code := some k2c37 }
def k2c38 : Code := { maxStack := 2, maxLocals := 2, code := prog_1_method_46_code, exceptionTable := #[], attributes := #[] }
def k2m38 : Method := { name := "propagateClauses", desc := "()Z", sig := { parameters := [], returnType := some .boolean }, accessFlags := 2, code := some k2c38 }
def k2c39 : Code := { maxStack := 4, maxLocals := 9, code := prog_1_method_47_code, exceptionTable := #[], attributes := #[] }
def k2m39 : Method := { name := "propagateClause", desc := "(I)Z", sig := { parameters := [.int], returnType := some .boolean }, accessFlags := 2, code := some k2c39 }
def k2c40 : Code := { maxStack := 6, maxLocals := 3, code := prog_1_method_48_code, exceptionTable := #[], attributes := #[] }
def k2m40 : Method := { name := "loadResidualRows", desc := "()V", sig := { parameters := [], returnType := none }, accessFlags := 2, code := some k2c40 }
def k2c41 : Code := { maxStack := 4, maxLocals := 4, code := prog_1_method_49_code, exceptionTable := #[], attributes := #[] }
def k2m41 : Method := { name := "propagateXors", desc := "()Z", sig := { parameters := [], returnType := some .boolean }, accessFlags := 2, code := some k2c41 }
/-- XorGaussSat -/
def k2 : Class := { plain "XorGaussSat" (some 0) with
  accessFlags := 49
  interfaces := #[]
  cf := some (fileOf pool2 8 #[] #[{ accessFlags := 1, nameIndex := 5, descriptorIndex := 104, attributes := #[] }, { accessFlags := 1, nameIndex := 258, descriptorIndex := 259, attributes := #[] }, { accessFlags := 1, nameIndex := 262, descriptorIndex := 108, attributes := #[] }, { accessFlags := 1, nameIndex := 263, descriptorIndex := 100, attributes := #[] }, { accessFlags := 1, nameIndex := 267, descriptorIndex := 108, attributes := #[] }, { accessFlags := 1, nameIndex := 71, descriptorIndex := 108, attributes := #[] }, { accessFlags := 1, nameIndex := 268, descriptorIndex := 134, attributes := #[] }, { accessFlags := 1, nameIndex := 269, descriptorIndex := 108, attributes := #[] }, { accessFlags := 1, nameIndex := 191, descriptorIndex := 134, attributes := #[] }, { accessFlags := 1, nameIndex := 270, descriptorIndex := 108, attributes := #[] }, { accessFlags := 1, nameIndex := 271, descriptorIndex := 134, attributes := #[] }, { accessFlags := 2, nameIndex := 99, descriptorIndex := 100, attributes := #[] }, { accessFlags := 2, nameIndex := 111, descriptorIndex := 108, attributes := #[] }, { accessFlags := 2, nameIndex := 107, descriptorIndex := 108, attributes := #[] }, { accessFlags := 2, nameIndex := 103, descriptorIndex := 104, attributes := #[] }, { accessFlags := 2, nameIndex := 121, descriptorIndex := 115, attributes := #[] }, { accessFlags := 2, nameIndex := 124, descriptorIndex := 115, attributes := #[] }, { accessFlags := 2, nameIndex := 169, descriptorIndex := 170, attributes := #[] }, { accessFlags := 2, nameIndex := 140, descriptorIndex := 134, attributes := #[] }, { accessFlags := 2, nameIndex := 221, descriptorIndex := 134, attributes := #[] }, { accessFlags := 2, nameIndex := 218, descriptorIndex := 170, attributes := #[] }, { accessFlags := 2, nameIndex := 159, descriptorIndex := 6, attributes := #[] }, { accessFlags := 2, nameIndex := 146, descriptorIndex := 134, attributes := #[] }, { accessFlags := 2, nameIndex := 149, descriptorIndex := 150, attributes := #[] }, { accessFlags := 2, nameIndex := 153, descriptorIndex := 150, attributes := #[] }, { accessFlags := 2, nameIndex := 162, descriptorIndex := 163, attributes := #[] }, { accessFlags := 2, nameIndex := 127, descriptorIndex := 6, attributes := #[] }, { accessFlags := 2, nameIndex := 130, descriptorIndex := 108, attributes := #[] }, { accessFlags := 2, nameIndex := 166, descriptorIndex := 134, attributes := #[] }, { accessFlags := 2, nameIndex := 137, descriptorIndex := 134, attributes := #[] }, { accessFlags := 2, nameIndex := 114, descriptorIndex := 115, attributes := #[] }, { accessFlags := 2, nameIndex := 173, descriptorIndex := 6, attributes := #[] }, { accessFlags := 2, nameIndex := 176, descriptorIndex := 150, attributes := #[] }, { accessFlags := 2, nameIndex := 206, descriptorIndex := 104, attributes := #[] }, { accessFlags := 2, nameIndex := 203, descriptorIndex := 108, attributes := #[] }, { accessFlags := 2, nameIndex := 194, descriptorIndex := 6, attributes := #[] }, { accessFlags := 2, nameIndex := 182, descriptorIndex := 163, attributes := #[] }, { accessFlags := 2, nameIndex := 179, descriptorIndex := 163, attributes := #[] }, { accessFlags := 2, nameIndex := 209, descriptorIndex := 163, attributes := #[] }, { accessFlags := 2, nameIndex := 215, descriptorIndex := 170, attributes := #[] }, { accessFlags := 2, nameIndex := 224, descriptorIndex := 6, attributes := #[] }, { accessFlags := 2, nameIndex := 212, descriptorIndex := 163, attributes := #[] }] 49 2 #[] #[{ accessFlags := 25, nameIndex := 225, descriptorIndex := 65, attributes := #[] }, { accessFlags := 25, nameIndex := 228, descriptorIndex := 65, attributes := #[] }, { accessFlags := 25, nameIndex := 230, descriptorIndex := 65, attributes := #[] }, { accessFlags := 25, nameIndex := 232, descriptorIndex := 65, attributes := #[] }, { accessFlags := 25, nameIndex := 233, descriptorIndex := 65, attributes := #[] }, { accessFlags := 25, nameIndex := 234, descriptorIndex := 65, attributes := #[] }, { accessFlags := 25, nameIndex := 235, descriptorIndex := 65, attributes := #[] }, { accessFlags := 25, nameIndex := 236, descriptorIndex := 65, attributes := #[] }, { accessFlags := 25, nameIndex := 237, descriptorIndex := 65, attributes := #[] }, { accessFlags := 25, nameIndex := 239, descriptorIndex := 65, attributes := #[] }, { accessFlags := 25, nameIndex := 241, descriptorIndex := 65, attributes := #[] }, { accessFlags := 25, nameIndex := 243, descriptorIndex := 65, attributes := #[] }, { accessFlags := 25, nameIndex := 245, descriptorIndex := 65, attributes := #[] }, { accessFlags := 25, nameIndex := 246, descriptorIndex := 65, attributes := #[] }, { accessFlags := 25, nameIndex := 248, descriptorIndex := 65, attributes := #[] }, { accessFlags := 25, nameIndex := 250, descriptorIndex := 65, attributes := #[] }, { accessFlags := 25, nameIndex := 252, descriptorIndex := 65, attributes := #[] }, { accessFlags := 2, nameIndex := 64, descriptorIndex := 65, attributes := #[] }, { accessFlags := 2, nameIndex := 68, descriptorIndex := 65, attributes := #[] }, { accessFlags := 2, nameIndex := 71, descriptorIndex := 65, attributes := #[] }, { accessFlags := 2, nameIndex := 74, descriptorIndex := 65, attributes := #[] }, { accessFlags := 18, nameIndex := 11, descriptorIndex := 12, attributes := #[] }, { accessFlags := 18, nameIndex := 15, descriptorIndex := 16, attributes := #[] }, { accessFlags := 2, nameIndex := 77, descriptorIndex := 65, attributes := #[] }, { accessFlags := 18, nameIndex := 19, descriptorIndex := 12, attributes := #[] }, { accessFlags := 18, nameIndex := 22, descriptorIndex := 12, attributes := #[] }, { accessFlags := 2, nameIndex := 80, descriptorIndex := 65, attributes := #[] }, { accessFlags := 18, nameIndex := 25, descriptorIndex := 12, attributes := #[] }, { accessFlags := 18, nameIndex := 28, descriptorIndex := 12, attributes := #[] }, { accessFlags := 2, nameIndex := 83, descriptorIndex := 65, attributes := #[] }, { accessFlags := 18, nameIndex := 31, descriptorIndex := 12, attributes := #[] }, { accessFlags := 2, nameIndex := 86, descriptorIndex := 65, attributes := #[] }, { accessFlags := 18, nameIndex := 34, descriptorIndex := 12, attributes := #[] }, { accessFlags := 18, nameIndex := 37, descriptorIndex := 12, attributes := #[] }, { accessFlags := 18, nameIndex := 40, descriptorIndex := 12, attributes := #[] }, { accessFlags := 2, nameIndex := 96, descriptorIndex := 65, attributes := #[] }, { accessFlags := 2, nameIndex := 93, descriptorIndex := 90, attributes := #[] }, { accessFlags := 2, nameIndex := 89, descriptorIndex := 90, attributes := #[] }, { accessFlags := 18, nameIndex := 43, descriptorIndex := 12, attributes := #[] }, { accessFlags := 18, nameIndex := 46, descriptorIndex := 12, attributes := #[] }, { accessFlags := 18, nameIndex := 49, descriptorIndex := 12, attributes := #[] }, { accessFlags := 2, nameIndex := 156, descriptorIndex := 65, attributes := #[] }, { accessFlags := 2, nameIndex := 143, descriptorIndex := 65, attributes := #[] }, { accessFlags := 2, nameIndex := 185, descriptorIndex := 65, attributes := #[] }, { accessFlags := 2, nameIndex := 188, descriptorIndex := 65, attributes := #[] }, { accessFlags := 18, nameIndex := 52, descriptorIndex := 12, attributes := #[] }, { accessFlags := 2, nameIndex := 197, descriptorIndex := 65, attributes := #[] }, { accessFlags := 18, nameIndex := 55, descriptorIndex := 12, attributes := #[] }, { accessFlags := 18, nameIndex := 58, descriptorIndex := 12, attributes := #[] }, { accessFlags := 18, nameIndex := 61, descriptorIndex := 16, attributes := #[] }, { accessFlags := 2, nameIndex := 200, descriptorIndex := 65, attributes := #[] }, { accessFlags := 2, nameIndex := 118, descriptorIndex := 65, attributes := #[] }])
  fields := #[{ name := "UNSAT", type := .int, accessFlags := 25, slot := 0, constantValue := 0 }, { name := "SAT", type := .int, accessFlags := 25, slot := 1, constantValue := 0 }, { name := "UNKNOWN", type := .int, accessFlags := 25, slot := 2, constantValue := 0 }, { name := "KIND_CLAUSE", type := .int, accessFlags := 25, slot := 3, constantValue := 0 }, { name := "KIND_XOR", type := .int, accessFlags := 25, slot := 4, constantValue := 0 }, { name := "BB_FALSE", type := .int, accessFlags := 25, slot := 5, constantValue := 0 }, { name := "BB_TRUE", type := .int, accessFlags := 25, slot := 6, constantValue := 0 }, { name := "BB_FREE", type := .int, accessFlags := 25, slot := 7, constantValue := 0 }, { name := "BB_NONE", type := .int, accessFlags := 25, slot := 8, constantValue := 0 }, { name := "ERR_RANGE", type := .int, accessFlags := 25, slot := 9, constantValue := 0 }, { name := "ERR_FULL", type := .int, accessFlags := 25, slot := 10, constantValue := 0 }, { name := "ERR_EMPTY", type := .int, accessFlags := 25, slot := 11, constantValue := 0 }, { name := "MIN_VARS", type := .int, accessFlags := 25, slot := 12, constantValue := 0 }, { name := "MAX_VARS", type := .int, accessFlags := 25, slot := 13, constantValue := 0 }, { name := "MAX_PENDING", type := .int, accessFlags := 25, slot := 14, constantValue := 0 }, { name := "MAX_CLAUSES", type := .int, accessFlags := 25, slot := 15, constantValue := 0 }, { name := "MAX_XORS", type := .int, accessFlags := 25, slot := 16, constantValue := 0 }, { name := "n", type := .int, accessFlags := 2, slot := 0, constantValue := 0 }, { name := "fullMask", type := .int, accessFlags := 2, slot := 1, constantValue := 0 }, { name := "status", type := .int, accessFlags := 2, slot := 2, constantValue := 0 }, { name := "model", type := .int, accessFlags := 2, slot := 3, constantValue := 0 }, { name := "pendVar", type := (.array .int), accessFlags := 18, slot := 4, constantValue := 0 }, { name := "pendNeg", type := (.array .boolean), accessFlags := 18, slot := 5, constantValue := 0 }, { name := "pendLen", type := .int, accessFlags := 2, slot := 6, constantValue := 0 }, { name := "clausePos", type := (.array .int), accessFlags := 18, slot := 7, constantValue := 0 }, { name := "clauseNeg", type := (.array .int), accessFlags := 18, slot := 8, constantValue := 0 }, { name := "clauseCnt", type := .int, accessFlags := 2, slot := 9, constantValue := 0 }, { name := "xorMask", type := (.array .int), accessFlags := 18, slot := 10, constantValue := 0 }, { name := "xorRhs", type := (.array .int), accessFlags := 18, slot := 11, constantValue := 0 }, { name := "xorCnt", type := .int, accessFlags := 2, slot := 12, constantValue := 0 }, { name := "order", type := (.array .int), accessFlags := 18, slot := 13, constantValue := 0 }, { name := "orderLen", type := .int, accessFlags := 2, slot := 14, constantValue := 0 }, { name := "echMask", type := (.array .int), accessFlags := 18, slot := 15, constantValue := 0 }, { name := "echRhs", type := (.array .int), accessFlags := 18, slot := 16, constantValue := 0 }, { name := "echPivot", type := (.array .int), accessFlags := 18, slot := 17, constantValue := 0 }, { name := "echRank", type := .int, accessFlags := 2, slot := 18, constantValue := 0 }, { name := "echConsistent", type := .boolean, accessFlags := 2, slot := 19, constantValue := 0 }, { name := "echValid", type := .boolean, accessFlags := 2, slot := 20, constantValue := 0 }, { name := "gMask", type := (.array .int), accessFlags := 18, slot := 21, constantValue := 0 }, { name := "gRhs", type := (.array .int), accessFlags := 18, slot := 22, constantValue := 0 }, { name := "gPivot", type := (.array .int), accessFlags := 18, slot := 23, constantValue := 0 }, { name := "gRows", type := .int, accessFlags := 2, slot := 24, constantValue := 0 }, { name := "gRank", type := .int, accessFlags := 2, slot := 25, constantValue := 0 }, { name := "asgMask", type := .int, accessFlags := 2, slot := 26, constantValue := 0 }, { name := "asgVals", type := .int, accessFlags := 2, slot := 27, constantValue := 0 }, { name := "trail", type := (.array .int), accessFlags := 18, slot := 28, constantValue := 0 }, { name := "trailLen", type := .int, accessFlags := 2, slot := 29, constantValue := 0 }, { name := "lvlVar", type := (.array .int), accessFlags := 18, slot := 30, constantValue := 0 }, { name := "lvlStart", type := (.array .int), accessFlags := 18, slot := 31, constantValue := 0 }, { name := "lvlFlipped", type := (.array .boolean), accessFlags := 18, slot := 32, constantValue := 0 }, { name := "lvlCnt", type := .int, accessFlags := 2, slot := 33, constantValue := 0 }, { name := "found", type := .int, accessFlags := 2, slot := 34, constantValue := 0 }]
  methods := #[k2m0, k2m1, k2m2, k2m3, k2m4, k2m5, k2m6, k2m7, k2m8, k2m9, k2m10, k2m11, k2m12, k2m13, k2m14, k2m15, k2m16, k2m17, k2m18, k2m19, k2m20, k2m21, k2m22, k2m23, k2m24, k2m25, k2m26, k2m27, k2m28, k2m29, k2m30, k2m31, k2m32, k2m33, k2m34, k2m35, k2m36, k2m37, k2m38, k2m39, k2m40, k2m41]
  instanceTypes := #[.int, .int, .int, .int, (.array .int), (.array .boolean), .int, (.array .int), (.array .int), .int, (.array .int), (.array .int), .int, (.array .int), .int, (.array .int), (.array .int), (.array .int), .int, .boolean, .boolean, (.array .int), (.array .int), (.array .int), .int, .int, .int, .int, (.array .int), .int, (.array .int), (.array .int), (.array .boolean), .int, .int]
  staticTypes := #[.int, .int, .int, .int, .int, .int, .int, .int, .int, .int, .int, .int, .int, .int, .int, .int, .int]
  resolved := Array.replicate 274 none
  statics := none }

def pool3 : Array CpInfo := pool [(1, u "java/lang/Cloneable"), (0, .class_ 1), (0, u "java/lang/Object"), (0, .class_ 3)] 3

/-- java/lang/Cloneable -/
def k3 : Class := { plain "java/lang/Cloneable" (some 0) with
  accessFlags := 1537
  interfaces := #[]
  cf := some (fileOf pool3 2 #[] #[] 1537 4 #[] #[])
  fields := #[]
  methods := #[]
  instanceTypes := #[]
  staticTypes := #[]
  resolved := Array.replicate 8 none
  statics := none }

def pool4 : Array CpInfo := pool [(1, u "java/io/Serializable"), (0, .class_ 1), (0, u "java/lang/Object"), (0, .class_ 3)] 3

/-- java/io/Serializable -/
def k4 : Class := { plain "java/io/Serializable" (some 0) with
  accessFlags := 1537
  interfaces := #[]
  cf := some (fileOf pool4 2 #[] #[] 1537 4 #[] #[])
  fields := #[]
  methods := #[]
  instanceTypes := #[]
  staticTypes := #[]
  resolved := Array.replicate 8 none
  statics := none }

/-- the primitive boolean -/
def k5 : Class := { plain "boolean" none with kind := .primitive 'Z', accessFlags := 0x411 }
/-- [Z -/
def k6 : Class := { plain "[Z" (some 0) with kind := .array 5 .boolean, interfaces := #[3, 4], accessFlags := 1041 }

/-- the primitive byte -/
def k7 : Class := { plain "byte" none with kind := .primitive 'B', accessFlags := 0x411 }
/-- [B -/
def k8 : Class := { plain "[B" (some 0) with kind := .array 7 .byte, interfaces := #[3, 4], accessFlags := 1041 }

/-- the primitive int -/
def k9 : Class := { plain "int" none with kind := .primitive 'I', accessFlags := 0x411 }
/-- [I -/
def k10 : Class := { plain "[I" (some 0) with kind := .array 9 .int, interfaces := #[3, 4], accessFlags := 1041 }

def heap : Heap := #[]
def classes : Array Class := #[k0, k1, k2, k3, k4, k5, k6, k7, k8, k9, k10]
def interned : List (Array UInt16 × Addr) := []
def slotsUsed : Nat := 0
def theMethod : MethodId := ⟨1, 1⟩
def args0 : Array Value := #[.int 3, .int 1, .int 1, .int 0, .int 2, .int 1]
def aboutOver (below : List Frame) : State where
  vm := { classes := classes, interned := interned.toArray }
  heap := heap
  slotsUsed := slotsUsed
  threads := #[{ frames := .invoking theMethod args0 :: below }]
def below0 : List Frame := [.native { method := ⟨0, 0⟩, args := #[] }]
def about1 : State := aboutOver below0
def p0 : Program := .bare "" "" ""
def e0 : Env := launch0.env 0 0 0
theorem w_frames : about1.frames = Frame.invoking theMethod args0 :: below0 := rfl
set_option maxRecDepth 65536 in
theorem w_args : argsFit about1.vm theMethod args0 = true := by decide +kernel
set_option maxRecDepth 65536 in
theorem w_heap : heapFits about1 = true := by decide +kernel
set_option maxRecDepth 65536 in
theorem w_runnable : about1.curStatus? = some .runnable := by decide +kernel
set_option maxRecDepth 65536 in
theorem w_alone : about1.alone = true := by decide +kernel
set_option maxRecDepth 65536 in
theorem w_named : about1.methodNamed? x = some theMethod := by decide +kernel
set_option maxRecDepth 65536 in
theorem w_hears : about1.hears theMethod below0 = true := by decide +kernel
set_option maxRecDepth 65536 in
theorem w_ripe : about1.ripe theMethod args0 below0 = true := by decide +kernel
theorem w_running : about1.status = .running := rfl
set_option maxRecDepth 65536 in
theorem w_room : about1.hasRoom e0.platform room_1 = true :=
  launch0.hasRoom_least _ room_1 (by decide +kernel) (by decide +kernel) (by decide +kernel) (by decide +kernel) (by decide +kernel) (by decide +kernel)
theorem allAtoms_all (ts : List Jvm.Cond) (a : Array Jvm.Value) (st : Jvm.State) : (allAtoms ts).before a st = ts.all (fun c => c.before a st) := by
  induction ts with
  | nil => rfl
  | cons c t ih =>
    show (Jvm.Cond.and c (allAtoms t)).before a st = _
    rw [Jvm.Cond.before_and, ih, List.all_cons]
def words1 : List Jvm.Cond := Jvm.Cond.code x code maxLocals ret :: tables_1
/-- a 'code' word, met by the world's own term for the bytes: nothing is compared byte by byte -/
theorem code_word {y : MethodName} {bytes : ByteArray} {mx : Nat} {rt : Option FieldType} {a : Array Value} {s : State} {m : MethodId} {meth : Method} {c : Code} (h1 : s.methodNamed? y = some m) (h2 : s.vm.method? m = some meth) (h3 : meth.code = some c) (h4 : c.code = bytes)
    (h5 : (c.maxLocals == mx && c.exceptionTable.isEmpty && decide (c.maxStack ≤ mostOperands) && decide (meth.sig.returnType = rt) && !meth.locks && decide (parseMethodDescriptor y.desc = some meth.sig)) = true) : (Jvm.Cond.code y bytes mx rt).before a s = true := by
  simp only [Bool.and_eq_true, beq_iff_eq, Bool.not_eq_true', decide_eq_true_eq] at h5
  obtain ⟨⟨⟨⟨⟨g1, g2⟩, g3⟩, g4⟩, g5⟩, g6⟩ := h5
  simp [Cond.before, Cond.holds, Cond.value, h1, h2, h3, h4, g1, g2, g3, g4, g5, g6]
def isCode : Jvm.Cond → Bool
  | .code _ _ _ _ => true
  | _ => false
theorem all_split {L : List Jvm.Cond} {P : Jvm.Cond → Bool} (h1 : L.all (fun c => isCode c || P c) = true) (h2 : ∀ c ∈ L.filter isCode, P c = true) : L.all P = true := by
  refine List.all_eq_true.mpr fun c hc => ?_
  have h := List.all_eq_true.mp h1 c hc
  rcases Bool.eq_false_or_eq_true (isCode c) with hi | hi
  · exact h2 c (List.mem_filter.mpr ⟨hc, hi⟩)
  · simpa [hi] using h
set_option maxRecDepth 65536 in
theorem w_c0 : (Jvm.Cond.code x code maxLocals ret).before args0 about1 = true := code_word (m := ⟨1, 1⟩) (meth := k1m1) (c := k1c1) (by decide +kernel) rfl rfl rfl (by decide +kernel)
set_option maxRecDepth 65536 in
theorem w_c1 : (Jvm.Cond.code ({ cls := "XorGaussSat", name := "<init>", desc := "(I)V" } : Jvm.MethodName) prog_1_method_1_code (3 : Nat) (Option.none : Option Jvm.ClassFile.FieldType)).before args0 about1 = true := code_word (m := ⟨2, 0⟩) (meth := k2m0) (c := k2c0) (by decide +kernel) rfl rfl rfl (by decide +kernel)
set_option maxRecDepth 65536 in
theorem w_c2 : (Jvm.Cond.code ({ cls := "java/lang/Object", name := "<init>", desc := "()V" } : Jvm.MethodName) object_method_1_code (1 : Nat) (Option.none : Option Jvm.ClassFile.FieldType)).before args0 about1 = true := code_word (m := ⟨0, 0⟩) (meth := k0m0) (c := k0c0) (by decide +kernel) rfl rfl rfl (by decide +kernel)
set_option maxRecDepth 65536 in
theorem w_c3 : (Jvm.Cond.code ({ cls := "XorGaussSat", name := "addLiteral", desc := "(IZ)I" } : Jvm.MethodName) prog_1_method_3_code (3 : Nat) (Option.some Jvm.ClassFile.FieldType.int)).before args0 about1 = true := code_word (m := ⟨2, 1⟩) (meth := k2m1) (c := k2c1) (by decide +kernel) rfl rfl rfl (by decide +kernel)
set_option maxRecDepth 65536 in
theorem w_c4 : (Jvm.Cond.code ({ cls := "XorGaussSat", name := "commitXor", desc := "(Z)I" } : Jvm.MethodName) prog_1_method_7_code (4 : Nat) (Option.some Jvm.ClassFile.FieldType.int)).before args0 about1 = true := code_word (m := ⟨2, 3⟩) (meth := k2m3) (c := k2c3) (by decide +kernel) rfl rfl rfl (by decide +kernel)
set_option maxRecDepth 65536 in
theorem w_c5 : (Jvm.Cond.code ({ cls := "XorGaussSat", name := "pendingNegatedParity", desc := "()I" } : Jvm.MethodName) prog_1_method_20_code (3 : Nat) (Option.some Jvm.ClassFile.FieldType.int)).before args0 about1 = true := code_word (m := ⟨2, 13⟩) (meth := k2m13) (c := k2c13) (by decide +kernel) rfl rfl rfl (by decide +kernel)
set_option maxRecDepth 65536 in
theorem w_c6 : (Jvm.Cond.code ({ cls := "XorGaussSat", name := "pendingXorMask", desc := "()I" } : Jvm.MethodName) prog_1_method_19_code (3 : Nat) (Option.some Jvm.ClassFile.FieldType.int)).before args0 about1 = true := code_word (m := ⟨2, 12⟩) (meth := k2m12) (c := k2c12) (by decide +kernel) rfl rfl rfl (by decide +kernel)
set_option maxRecDepth 65536 in
theorem w_c7 : (Jvm.Cond.code ({ cls := "XorGaussSat", name := "pushOrder", desc := "(I)V" } : Jvm.MethodName) prog_1_method_21_code (2 : Nat) (Option.none : Option Jvm.ClassFile.FieldType)).before args0 about1 = true := code_word (m := ⟨2, 14⟩) (meth := k2m14) (c := k2c14) (by decide +kernel) rfl rfl rfl (by decide +kernel)
set_option maxRecDepth 65536 in
theorem w_c8 : (Jvm.Cond.code ({ cls := "XorGaussSat", name := "commitClause", desc := "()I" } : Jvm.MethodName) prog_1_method_6_code (2 : Nat) (Option.some Jvm.ClassFile.FieldType.int)).before args0 about1 = true := code_word (m := ⟨2, 2⟩) (meth := k2m2) (c := k2c2) (by decide +kernel) rfl rfl rfl (by decide +kernel)
set_option maxRecDepth 65536 in
theorem w_c9 : (Jvm.Cond.code ({ cls := "XorGaussSat", name := "pendingMask", desc := "(Z)I" } : Jvm.MethodName) prog_1_method_18_code (4 : Nat) (Option.some Jvm.ClassFile.FieldType.int)).before args0 about1 = true := code_word (m := ⟨2, 11⟩) (meth := k2m11) (c := k2c11) (by decide +kernel) rfl rfl rfl (by decide +kernel)
set_option maxRecDepth 65536 in
theorem w_c10 : (Jvm.Cond.code ({ cls := "XorGaussSat", name := "solve", desc := "()I" } : Jvm.MethodName) prog_1_method_11_code (1 : Nat) (Option.some Jvm.ClassFile.FieldType.int)).before args0 about1 = true := code_word (m := ⟨2, 4⟩) (meth := k2m4) (c := k2c4) (by decide +kernel) rfl rfl rfl (by decide +kernel)
set_option maxRecDepth 65536 in
theorem w_c11 : (Jvm.Cond.code ({ cls := "XorGaussSat", name := "search", desc := "(II)Z" } : Jvm.MethodName) prog_1_method_38_code (4 : Nat) (Option.some Jvm.ClassFile.FieldType.boolean)).before args0 about1 = true := code_word (m := ⟨2, 30⟩) (meth := k2m30) (c := k2c30) (by decide +kernel) rfl rfl rfl (by decide +kernel)
set_option maxRecDepth 65536 in
theorem w_c12 : (Jvm.Cond.code ({ cls := "XorGaussSat", name := "ensureEchelon", desc := "()V" } : Jvm.MethodName) prog_1_method_34_code (2 : Nat) (Option.none : Option Jvm.ClassFile.FieldType)).before args0 about1 = true := code_word (m := ⟨2, 26⟩) (meth := k2m26) (c := k2c26) (by decide +kernel) rfl rfl rfl (by decide +kernel)
set_option maxRecDepth 65536 in
theorem w_c13 : (Jvm.Cond.code ({ cls := "XorGaussSat", name := "eliminate", desc := "()V" } : Jvm.MethodName) prog_1_method_29_code (3 : Nat) (Option.none : Option Jvm.ClassFile.FieldType)).before args0 about1 = true := code_word (m := ⟨2, 21⟩) (meth := k2m21) (c := k2c21) (by decide +kernel) rfl rfl rfl (by decide +kernel)
set_option maxRecDepth 65536 in
theorem w_c14 : (Jvm.Cond.code ({ cls := "XorGaussSat", name := "findPivot", desc := "(I)I" } : Jvm.MethodName) prog_1_method_30_code (4 : Nat) (Option.some Jvm.ClassFile.FieldType.int)).before args0 about1 = true := code_word (m := ⟨2, 22⟩) (meth := k2m22) (c := k2c22) (by decide +kernel) rfl rfl rfl (by decide +kernel)
set_option maxRecDepth 65536 in
theorem w_c15 : (Jvm.Cond.code ({ cls := "XorGaussSat", name := "swapRows", desc := "(II)V" } : Jvm.MethodName) prog_1_method_31_code (5 : Nat) (Option.none : Option Jvm.ClassFile.FieldType)).before args0 about1 = true := code_word (m := ⟨2, 23⟩) (meth := k2m23) (c := k2c23) (by decide +kernel) rfl rfl rfl (by decide +kernel)
set_option maxRecDepth 65536 in
theorem w_c16 : (Jvm.Cond.code ({ cls := "XorGaussSat", name := "clearColumn", desc := "(II)V" } : Jvm.MethodName) prog_1_method_32_code (5 : Nat) (Option.none : Option Jvm.ClassFile.FieldType)).before args0 about1 = true := code_word (m := ⟨2, 24⟩) (meth := k2m24) (c := k2c24) (by decide +kernel) rfl rfl rfl (by decide +kernel)
set_option maxRecDepth 65536 in
theorem w_c17 : (Jvm.Cond.code ({ cls := "XorGaussSat", name := "scratchConsistent", desc := "()Z" } : Jvm.MethodName) prog_1_method_33_code (2 : Nat) (Option.some Jvm.ClassFile.FieldType.boolean)).before args0 about1 = true := code_word (m := ⟨2, 25⟩) (meth := k2m25) (c := k2c25) (by decide +kernel) rfl rfl rfl (by decide +kernel)
set_option maxRecDepth 65536 in
theorem w_c18 : (Jvm.Cond.code ({ cls := "XorGaussSat", name := "resetSearch", desc := "()V" } : Jvm.MethodName) prog_1_method_39_code (1 : Nat) (Option.none : Option Jvm.ClassFile.FieldType)).before args0 about1 = true := code_word (m := ⟨2, 31⟩) (meth := k2m31) (c := k2c31) (by decide +kernel) rfl rfl rfl (by decide +kernel)
set_option maxRecDepth 65536 in
theorem w_c19 : (Jvm.Cond.code ({ cls := "XorGaussSat", name := "propagate", desc := "()Z" } : Jvm.MethodName) prog_1_method_45_code (3 : Nat) (Option.some Jvm.ClassFile.FieldType.boolean)).before args0 about1 = true := code_word (m := ⟨2, 37⟩) (meth := k2m37) (c := k2c37) (by decide +kernel) rfl rfl rfl (by decide +kernel)
set_option maxRecDepth 65536 in
theorem w_c20 : (Jvm.Cond.code ({ cls := "XorGaussSat", name := "propagateClauses", desc := "()Z" } : Jvm.MethodName) prog_1_method_46_code (2 : Nat) (Option.some Jvm.ClassFile.FieldType.boolean)).before args0 about1 = true := code_word (m := ⟨2, 38⟩) (meth := k2m38) (c := k2c38) (by decide +kernel) rfl rfl rfl (by decide +kernel)
set_option maxRecDepth 65536 in
theorem w_c21 : (Jvm.Cond.code ({ cls := "XorGaussSat", name := "propagateClause", desc := "(I)Z" } : Jvm.MethodName) prog_1_method_47_code (9 : Nat) (Option.some Jvm.ClassFile.FieldType.boolean)).before args0 about1 = true := code_word (m := ⟨2, 39⟩) (meth := k2m39) (c := k2c39) (by decide +kernel) rfl rfl rfl (by decide +kernel)
set_option maxRecDepth 65536 in
theorem w_c22 : (Jvm.Cond.code ({ cls := "XorGaussSat", name := "isSingleBit", desc := "(I)Z" } : Jvm.MethodName) prog_1_method_28_code (2 : Nat) (Option.some Jvm.ClassFile.FieldType.boolean)).before args0 about1 = true := code_word (m := ⟨2, 20⟩) (meth := k2m20) (c := k2c20) (by decide +kernel) rfl rfl rfl (by decide +kernel)
set_option maxRecDepth 65536 in
theorem w_c23 : (Jvm.Cond.code ({ cls := "XorGaussSat", name := "propagateXors", desc := "()Z" } : Jvm.MethodName) prog_1_method_49_code (4 : Nat) (Option.some Jvm.ClassFile.FieldType.boolean)).before args0 about1 = true := code_word (m := ⟨2, 41⟩) (meth := k2m41) (c := k2c41) (by decide +kernel) rfl rfl rfl (by decide +kernel)
set_option maxRecDepth 65536 in
theorem w_c24 : (Jvm.Cond.code ({ cls := "XorGaussSat", name := "loadResidualRows", desc := "()V" } : Jvm.MethodName) prog_1_method_48_code (3 : Nat) (Option.none : Option Jvm.ClassFile.FieldType)).before args0 about1 = true := code_word (m := ⟨2, 40⟩) (meth := k2m40) (c := k2c40) (by decide +kernel) rfl rfl rfl (by decide +kernel)
set_option maxRecDepth 65536 in
theorem w_c25 : (Jvm.Cond.code ({ cls := "XorGaussSat", name := "parity", desc := "(I)I" } : Jvm.MethodName) prog_1_method_25_code (3 : Nat) (Option.some Jvm.ClassFile.FieldType.int)).before args0 about1 = true := code_word (m := ⟨2, 18⟩) (meth := k2m18) (c := k2c18) (by decide +kernel) rfl rfl rfl (by decide +kernel)
set_option maxRecDepth 65536 in
theorem w_c26 : (Jvm.Cond.code ({ cls := "XorGaussSat", name := "decide", desc := "()V" } : Jvm.MethodName) prog_1_method_43_code (2 : Nat) (Option.none : Option Jvm.ClassFile.FieldType)).before args0 about1 = true := code_word (m := ⟨2, 35⟩) (meth := k2m35) (c := k2c35) (by decide +kernel) rfl rfl rfl (by decide +kernel)
set_option maxRecDepth 65536 in
theorem w_c27 : (Jvm.Cond.code ({ cls := "XorGaussSat", name := "lowestUnassigned", desc := "()I" } : Jvm.MethodName) prog_1_method_42_code (2 : Nat) (Option.some Jvm.ClassFile.FieldType.int)).before args0 about1 = true := code_word (m := ⟨2, 34⟩) (meth := k2m34) (c := k2c34) (by decide +kernel) rfl rfl rfl (by decide +kernel)
set_option maxRecDepth 65536 in
theorem w_c28 : (Jvm.Cond.code ({ cls := "XorGaussSat", name := "assign", desc := "(II)V" } : Jvm.MethodName) prog_1_method_40_code (4 : Nat) (Option.none : Option Jvm.ClassFile.FieldType)).before args0 about1 = true := code_word (m := ⟨2, 32⟩) (meth := k2m32) (c := k2c32) (by decide +kernel) rfl rfl rfl (by decide +kernel)
set_option maxRecDepth 65536 in
theorem w_c29 : (Jvm.Cond.code ({ cls := "XorGaussSat", name := "lowestBit", desc := "(I)I" } : Jvm.MethodName) prog_1_method_27_code (3 : Nat) (Option.some Jvm.ClassFile.FieldType.int)).before args0 about1 = true := code_word (m := ⟨2, 19⟩) (meth := k2m19) (c := k2c19) (by decide +kernel) rfl rfl rfl (by decide +kernel)
set_option maxRecDepth 65536 in
theorem w_c30 : (Jvm.Cond.code ({ cls := "XorGaussSat", name := "violations", desc := "(I)I" } : Jvm.MethodName) prog_1_method_15_code (5 : Nat) (Option.some Jvm.ClassFile.FieldType.int)).before args0 about1 = true := code_word (m := ⟨2, 8⟩) (meth := k2m8) (c := k2c8) (by decide +kernel) rfl rfl rfl (by decide +kernel)
set_option maxRecDepth 65536 in
theorem w_c31 : (Jvm.Cond.code ({ cls := "XorGaussSat", name := "clauseHolds", desc := "(II)Z" } : Jvm.MethodName) prog_1_method_22_code (4 : Nat) (Option.some Jvm.ClassFile.FieldType.boolean)).before args0 about1 = true := code_word (m := ⟨2, 15⟩) (meth := k2m15) (c := k2c15) (by decide +kernel) rfl rfl rfl (by decide +kernel)
set_option maxRecDepth 65536 in
theorem w_c32 : (Jvm.Cond.code ({ cls := "XorGaussSat", name := "xorHolds", desc := "(II)Z" } : Jvm.MethodName) prog_1_method_23_code (4 : Nat) (Option.some Jvm.ClassFile.FieldType.boolean)).before args0 about1 = true := code_word (m := ⟨2, 16⟩) (meth := k2m16) (c := k2c16) (by decide +kernel) rfl rfl rfl (by decide +kernel)
set_option maxRecDepth 65536 in
theorem w_c33 : (Jvm.Cond.code ({ cls := "XorGaussSat", name := "status", desc := "()I" } : Jvm.MethodName) prog_1_method_12_code (1 : Nat) (Option.some Jvm.ClassFile.FieldType.int)).before args0 about1 = true := code_word (m := ⟨2, 5⟩) (meth := k2m5) (c := k2c5) (by decide +kernel) rfl rfl rfl (by decide +kernel)
set_option maxRecDepth 65536 in
theorem w_c34 : (Jvm.Cond.code ({ cls := "XorGaussSat", name := "modelBits", desc := "()I" } : Jvm.MethodName) prog_1_method_14_code (1 : Nat) (Option.some Jvm.ClassFile.FieldType.int)).before args0 about1 = true := code_word (m := ⟨2, 7⟩) (meth := k2m7) (c := k2c7) (by decide +kernel) rfl rfl rfl (by decide +kernel)
set_option maxRecDepth 65536 in
theorem w_c35 : (Jvm.Cond.code ({ cls := "XorGaussSat", name := "value", desc := "(I)I" } : Jvm.MethodName) prog_1_method_13_code (2 : Nat) (Option.some Jvm.ClassFile.FieldType.int)).before args0 about1 = true := code_word (m := ⟨2, 6⟩) (meth := k2m6) (c := k2c6) (by decide +kernel) rfl rfl rfl (by decide +kernel)
set_option maxRecDepth 65536 in
theorem w_c36 : (Jvm.Cond.code ({ cls := "XorGaussSat", name := "countModels", desc := "()I" } : Jvm.MethodName) prog_1_method_16_code (3 : Nat) (Option.some Jvm.ClassFile.FieldType.int)).before args0 about1 = true := code_word (m := ⟨2, 9⟩) (meth := k2m9) (c := k2c9) (by decide +kernel) rfl rfl rfl (by decide +kernel)
set_option maxRecDepth 65536 in
theorem w_c37 : (Jvm.Cond.code ({ cls := "XorGaussSat", name := "echPivotMask", desc := "()I" } : Jvm.MethodName) prog_1_method_35_code (3 : Nat) (Option.some Jvm.ClassFile.FieldType.int)).before args0 about1 = true := code_word (m := ⟨2, 27⟩) (meth := k2m27) (c := k2c27) (by decide +kernel) rfl rfl rfl (by decide +kernel)
set_option maxRecDepth 65536 in
theorem w_c38 : (Jvm.Cond.code ({ cls := "XorGaussSat", name := "countAffinePoints", desc := "(I)I" } : Jvm.MethodName) prog_1_method_37_code (6 : Nat) (Option.some Jvm.ClassFile.FieldType.int)).before args0 about1 = true := code_word (m := ⟨2, 29⟩) (meth := k2m29) (c := k2c29) (by decide +kernel) rfl rfl rfl (by decide +kernel)
set_option maxRecDepth 65536 in
theorem w_c39 : (Jvm.Cond.code ({ cls := "XorGaussSat", name := "completeFromFree", desc := "(I)I" } : Jvm.MethodName) prog_1_method_36_code (7 : Nat) (Option.some Jvm.ClassFile.FieldType.int)).before args0 about1 = true := code_word (m := ⟨2, 28⟩) (meth := k2m28) (c := k2c28) (by decide +kernel) rfl rfl rfl (by decide +kernel)
set_option maxRecDepth 65536 in
theorem w_c40 : (Jvm.Cond.code ({ cls := "XorGaussSat", name := "allClausesHold", desc := "(I)Z" } : Jvm.MethodName) prog_1_method_24_code (3 : Nat) (Option.some Jvm.ClassFile.FieldType.boolean)).before args0 about1 = true := code_word (m := ⟨2, 17⟩) (meth := k2m17) (c := k2c17) (by decide +kernel) rfl rfl rfl (by decide +kernel)
set_option maxRecDepth 65536 in
theorem w_c41 : (Jvm.Cond.code ({ cls := "XorGaussSat", name := "backbone", desc := "(I)I" } : Jvm.MethodName) prog_1_method_17_code (4 : Nat) (Option.some Jvm.ClassFile.FieldType.int)).before args0 about1 = true := code_word (m := ⟨2, 10⟩) (meth := k2m10) (c := k2c10) (by decide +kernel) rfl rfl rfl (by decide +kernel)
set_option maxRecDepth 65536 in
theorem w_c42 : (Jvm.Cond.code ({ cls := "XorGaussSatL3", name := "bb", desc := "(II)I" } : Jvm.MethodName) method_3_code (2 : Nat) (Option.some Jvm.ClassFile.FieldType.int)).before args0 about1 = true := code_word (m := ⟨1, 2⟩) (meth := k1m2) (c := k1c2) (by decide +kernel) rfl rfl rfl (by decide +kernel)
set_option maxRecDepth 65536 in
theorem w_c43 : (Jvm.Cond.code ({ cls := "XorGaussSat", name := "backtrack", desc := "()Z" } : Jvm.MethodName) prog_1_method_44_code (3 : Nat) (Option.some Jvm.ClassFile.FieldType.boolean)).before args0 about1 = true := code_word (m := ⟨2, 36⟩) (meth := k2m36) (c := k2c36) (by decide +kernel) rfl rfl rfl (by decide +kernel)
set_option maxRecDepth 65536 in
theorem w_c44 : (Jvm.Cond.code ({ cls := "XorGaussSat", name := "undoTo", desc := "(I)V" } : Jvm.MethodName) prog_1_method_41_code (5 : Nat) (Option.none : Option Jvm.ClassFile.FieldType)).before args0 about1 = true := code_word (m := ⟨2, 33⟩) (meth := k2m33) (c := k2c33) (by decide +kernel) rfl rfl rfl (by decide +kernel)
def codes1 : List Jvm.Cond := [Jvm.Cond.code x code maxLocals ret, Jvm.Cond.code ({ cls := "XorGaussSat", name := "<init>", desc := "(I)V" } : Jvm.MethodName) prog_1_method_1_code (3 : Nat) (Option.none : Option Jvm.ClassFile.FieldType), Jvm.Cond.code ({ cls := "java/lang/Object", name := "<init>", desc := "()V" } : Jvm.MethodName) object_method_1_code (1 : Nat) (Option.none : Option Jvm.ClassFile.FieldType), Jvm.Cond.code ({ cls := "XorGaussSat", name := "addLiteral", desc := "(IZ)I" } : Jvm.MethodName) prog_1_method_3_code (3 : Nat) (Option.some Jvm.ClassFile.FieldType.int), Jvm.Cond.code ({ cls := "XorGaussSat", name := "commitXor", desc := "(Z)I" } : Jvm.MethodName) prog_1_method_7_code (4 : Nat) (Option.some Jvm.ClassFile.FieldType.int), Jvm.Cond.code ({ cls := "XorGaussSat", name := "pendingNegatedParity", desc := "()I" } : Jvm.MethodName) prog_1_method_20_code (3 : Nat) (Option.some Jvm.ClassFile.FieldType.int), Jvm.Cond.code ({ cls := "XorGaussSat", name := "pendingXorMask", desc := "()I" } : Jvm.MethodName) prog_1_method_19_code (3 : Nat) (Option.some Jvm.ClassFile.FieldType.int), Jvm.Cond.code ({ cls := "XorGaussSat", name := "pushOrder", desc := "(I)V" } : Jvm.MethodName) prog_1_method_21_code (2 : Nat) (Option.none : Option Jvm.ClassFile.FieldType), Jvm.Cond.code ({ cls := "XorGaussSat", name := "commitClause", desc := "()I" } : Jvm.MethodName) prog_1_method_6_code (2 : Nat) (Option.some Jvm.ClassFile.FieldType.int), Jvm.Cond.code ({ cls := "XorGaussSat", name := "pendingMask", desc := "(Z)I" } : Jvm.MethodName) prog_1_method_18_code (4 : Nat) (Option.some Jvm.ClassFile.FieldType.int), Jvm.Cond.code ({ cls := "XorGaussSat", name := "solve", desc := "()I" } : Jvm.MethodName) prog_1_method_11_code (1 : Nat) (Option.some Jvm.ClassFile.FieldType.int), Jvm.Cond.code ({ cls := "XorGaussSat", name := "search", desc := "(II)Z" } : Jvm.MethodName) prog_1_method_38_code (4 : Nat) (Option.some Jvm.ClassFile.FieldType.boolean), Jvm.Cond.code ({ cls := "XorGaussSat", name := "ensureEchelon", desc := "()V" } : Jvm.MethodName) prog_1_method_34_code (2 : Nat) (Option.none : Option Jvm.ClassFile.FieldType), Jvm.Cond.code ({ cls := "XorGaussSat", name := "eliminate", desc := "()V" } : Jvm.MethodName) prog_1_method_29_code (3 : Nat) (Option.none : Option Jvm.ClassFile.FieldType), Jvm.Cond.code ({ cls := "XorGaussSat", name := "findPivot", desc := "(I)I" } : Jvm.MethodName) prog_1_method_30_code (4 : Nat) (Option.some Jvm.ClassFile.FieldType.int), Jvm.Cond.code ({ cls := "XorGaussSat", name := "swapRows", desc := "(II)V" } : Jvm.MethodName) prog_1_method_31_code (5 : Nat) (Option.none : Option Jvm.ClassFile.FieldType), Jvm.Cond.code ({ cls := "XorGaussSat", name := "clearColumn", desc := "(II)V" } : Jvm.MethodName) prog_1_method_32_code (5 : Nat) (Option.none : Option Jvm.ClassFile.FieldType), Jvm.Cond.code ({ cls := "XorGaussSat", name := "scratchConsistent", desc := "()Z" } : Jvm.MethodName) prog_1_method_33_code (2 : Nat) (Option.some Jvm.ClassFile.FieldType.boolean), Jvm.Cond.code ({ cls := "XorGaussSat", name := "resetSearch", desc := "()V" } : Jvm.MethodName) prog_1_method_39_code (1 : Nat) (Option.none : Option Jvm.ClassFile.FieldType), Jvm.Cond.code ({ cls := "XorGaussSat", name := "propagate", desc := "()Z" } : Jvm.MethodName) prog_1_method_45_code (3 : Nat) (Option.some Jvm.ClassFile.FieldType.boolean), Jvm.Cond.code ({ cls := "XorGaussSat", name := "propagateClauses", desc := "()Z" } : Jvm.MethodName) prog_1_method_46_code (2 : Nat) (Option.some Jvm.ClassFile.FieldType.boolean), Jvm.Cond.code ({ cls := "XorGaussSat", name := "propagateClause", desc := "(I)Z" } : Jvm.MethodName) prog_1_method_47_code (9 : Nat) (Option.some Jvm.ClassFile.FieldType.boolean), Jvm.Cond.code ({ cls := "XorGaussSat", name := "isSingleBit", desc := "(I)Z" } : Jvm.MethodName) prog_1_method_28_code (2 : Nat) (Option.some Jvm.ClassFile.FieldType.boolean), Jvm.Cond.code ({ cls := "XorGaussSat", name := "propagateXors", desc := "()Z" } : Jvm.MethodName) prog_1_method_49_code (4 : Nat) (Option.some Jvm.ClassFile.FieldType.boolean), Jvm.Cond.code ({ cls := "XorGaussSat", name := "loadResidualRows", desc := "()V" } : Jvm.MethodName) prog_1_method_48_code (3 : Nat) (Option.none : Option Jvm.ClassFile.FieldType), Jvm.Cond.code ({ cls := "XorGaussSat", name := "parity", desc := "(I)I" } : Jvm.MethodName) prog_1_method_25_code (3 : Nat) (Option.some Jvm.ClassFile.FieldType.int), Jvm.Cond.code ({ cls := "XorGaussSat", name := "decide", desc := "()V" } : Jvm.MethodName) prog_1_method_43_code (2 : Nat) (Option.none : Option Jvm.ClassFile.FieldType), Jvm.Cond.code ({ cls := "XorGaussSat", name := "lowestUnassigned", desc := "()I" } : Jvm.MethodName) prog_1_method_42_code (2 : Nat) (Option.some Jvm.ClassFile.FieldType.int), Jvm.Cond.code ({ cls := "XorGaussSat", name := "assign", desc := "(II)V" } : Jvm.MethodName) prog_1_method_40_code (4 : Nat) (Option.none : Option Jvm.ClassFile.FieldType), Jvm.Cond.code ({ cls := "XorGaussSat", name := "lowestBit", desc := "(I)I" } : Jvm.MethodName) prog_1_method_27_code (3 : Nat) (Option.some Jvm.ClassFile.FieldType.int), Jvm.Cond.code ({ cls := "XorGaussSat", name := "violations", desc := "(I)I" } : Jvm.MethodName) prog_1_method_15_code (5 : Nat) (Option.some Jvm.ClassFile.FieldType.int), Jvm.Cond.code ({ cls := "XorGaussSat", name := "clauseHolds", desc := "(II)Z" } : Jvm.MethodName) prog_1_method_22_code (4 : Nat) (Option.some Jvm.ClassFile.FieldType.boolean), Jvm.Cond.code ({ cls := "XorGaussSat", name := "xorHolds", desc := "(II)Z" } : Jvm.MethodName) prog_1_method_23_code (4 : Nat) (Option.some Jvm.ClassFile.FieldType.boolean), Jvm.Cond.code ({ cls := "XorGaussSat", name := "status", desc := "()I" } : Jvm.MethodName) prog_1_method_12_code (1 : Nat) (Option.some Jvm.ClassFile.FieldType.int), Jvm.Cond.code ({ cls := "XorGaussSat", name := "modelBits", desc := "()I" } : Jvm.MethodName) prog_1_method_14_code (1 : Nat) (Option.some Jvm.ClassFile.FieldType.int), Jvm.Cond.code ({ cls := "XorGaussSat", name := "value", desc := "(I)I" } : Jvm.MethodName) prog_1_method_13_code (2 : Nat) (Option.some Jvm.ClassFile.FieldType.int), Jvm.Cond.code ({ cls := "XorGaussSat", name := "countModels", desc := "()I" } : Jvm.MethodName) prog_1_method_16_code (3 : Nat) (Option.some Jvm.ClassFile.FieldType.int), Jvm.Cond.code ({ cls := "XorGaussSat", name := "echPivotMask", desc := "()I" } : Jvm.MethodName) prog_1_method_35_code (3 : Nat) (Option.some Jvm.ClassFile.FieldType.int), Jvm.Cond.code ({ cls := "XorGaussSat", name := "countAffinePoints", desc := "(I)I" } : Jvm.MethodName) prog_1_method_37_code (6 : Nat) (Option.some Jvm.ClassFile.FieldType.int), Jvm.Cond.code ({ cls := "XorGaussSat", name := "completeFromFree", desc := "(I)I" } : Jvm.MethodName) prog_1_method_36_code (7 : Nat) (Option.some Jvm.ClassFile.FieldType.int), Jvm.Cond.code ({ cls := "XorGaussSat", name := "allClausesHold", desc := "(I)Z" } : Jvm.MethodName) prog_1_method_24_code (3 : Nat) (Option.some Jvm.ClassFile.FieldType.boolean), Jvm.Cond.code ({ cls := "XorGaussSat", name := "backbone", desc := "(I)I" } : Jvm.MethodName) prog_1_method_17_code (4 : Nat) (Option.some Jvm.ClassFile.FieldType.int), Jvm.Cond.code ({ cls := "XorGaussSatL3", name := "bb", desc := "(II)I" } : Jvm.MethodName) method_3_code (2 : Nat) (Option.some Jvm.ClassFile.FieldType.int), Jvm.Cond.code ({ cls := "XorGaussSat", name := "backtrack", desc := "()Z" } : Jvm.MethodName) prog_1_method_44_code (3 : Nat) (Option.some Jvm.ClassFile.FieldType.boolean), Jvm.Cond.code ({ cls := "XorGaussSat", name := "undoTo", desc := "(I)V" } : Jvm.MethodName) prog_1_method_41_code (5 : Nat) (Option.none : Option Jvm.ClassFile.FieldType)]
set_option maxRecDepth 65536 in
theorem codes_eq : words1.filter isCode = codes1 := rfl
theorem w_codes : ∀ c ∈ words1.filter isCode, c.before args0 about1 = true := by
  rw [codes_eq]
  intro c hc
  simp only [codes1, List.mem_cons, List.not_mem_nil, or_false] at hc
  rcases hc with rfl | rfl | rfl | rfl | rfl | rfl | rfl | rfl | rfl | rfl | rfl | rfl | rfl | rfl | rfl | rfl | rfl | rfl | rfl | rfl | rfl | rfl | rfl | rfl | rfl | rfl | rfl | rfl | rfl | rfl | rfl | rfl | rfl | rfl | rfl | rfl | rfl | rfl | rfl | rfl | rfl | rfl | rfl | rfl | rfl
  · exact w_c0
  · exact w_c1
  · exact w_c2
  · exact w_c3
  · exact w_c4
  · exact w_c5
  · exact w_c6
  · exact w_c7
  · exact w_c8
  · exact w_c9
  · exact w_c10
  · exact w_c11
  · exact w_c12
  · exact w_c13
  · exact w_c14
  · exact w_c15
  · exact w_c16
  · exact w_c17
  · exact w_c18
  · exact w_c19
  · exact w_c20
  · exact w_c21
  · exact w_c22
  · exact w_c23
  · exact w_c24
  · exact w_c25
  · exact w_c26
  · exact w_c27
  · exact w_c28
  · exact w_c29
  · exact w_c30
  · exact w_c31
  · exact w_c32
  · exact w_c33
  · exact w_c34
  · exact w_c35
  · exact w_c36
  · exact w_c37
  · exact w_c38
  · exact w_c39
  · exact w_c40
  · exact w_c41
  · exact w_c42
  · exact w_c43
  · exact w_c44
set_option maxRecDepth 65536 in
theorem w_t1 : (words1.take 24).all (fun c => isCode c || c.before args0 about1) = true := by decide +kernel
set_option maxRecDepth 65536 in
theorem w_t2 : ((words1.drop 24).take 24).all (fun c => isCode c || c.before args0 about1) = true := by decide +kernel
set_option maxRecDepth 65536 in
theorem w_t3 : (((words1.drop 24).drop 24).take 24).all (fun c => isCode c || c.before args0 about1) = true := by decide +kernel
set_option maxRecDepth 65536 in
theorem w_t4 : ((((words1.drop 24).drop 24).drop 24).take 24).all (fun c => isCode c || c.before args0 about1) = true := by decide +kernel
set_option maxRecDepth 65536 in
theorem w_t5 : (((((words1.drop 24).drop 24).drop 24).drop 24).take 24).all (fun c => isCode c || c.before args0 about1) = true := by decide +kernel
set_option maxRecDepth 65536 in
theorem w_t6 : ((((((words1.drop 24).drop 24).drop 24).drop 24).drop 24).take 24).all (fun c => isCode c || c.before args0 about1) = true := by decide +kernel
set_option maxRecDepth 65536 in
theorem w_t7 : (((((((words1.drop 24).drop 24).drop 24).drop 24).drop 24).drop 24).take 24).all (fun c => isCode c || c.before args0 about1) = true := by decide +kernel
set_option maxRecDepth 65536 in
theorem w_t8 : ((((((((words1.drop 24).drop 24).drop 24).drop 24).drop 24).drop 24).drop 24).take 24).all (fun c => isCode c || c.before args0 about1) = true := by decide +kernel
set_option maxRecDepth 65536 in
theorem w_t9 : (((((((((words1.drop 24).drop 24).drop 24).drop 24).drop 24).drop 24).drop 24).drop 24).take 24).all (fun c => isCode c || c.before args0 about1) = true := by decide +kernel
set_option maxRecDepth 65536 in
theorem w_t10 : ((((((((((words1.drop 24).drop 24).drop 24).drop 24).drop 24).drop 24).drop 24).drop 24).drop 24).take 24).all (fun c => isCode c || c.before args0 about1) = true := by decide +kernel
set_option maxRecDepth 65536 in
theorem w_t11 : ((((((((((words1.drop 24).drop 24).drop 24).drop 24).drop 24).drop 24).drop 24).drop 24).drop 24).drop 24).all (fun c => isCode c || c.before args0 about1) = true := by decide +kernel
theorem w_tables : (allAtoms (Jvm.Cond.code x code maxLocals ret :: tables_1)).before args0 about1 = true := by
  rw [allAtoms_all]
  show words1.all (fun c => c.before args0 about1) = true
  refine all_split ?_ w_codes
  rw [← List.take_append_drop 24 words1, List.all_append, w_t1, ← List.take_append_drop 24 (words1.drop 24), List.all_append, w_t2, ← List.take_append_drop 24 ((words1.drop 24).drop 24), List.all_append, w_t3, ← List.take_append_drop 24 (((words1.drop 24).drop 24).drop 24), List.all_append, w_t4, ← List.take_append_drop 24 ((((words1.drop 24).drop 24).drop 24).drop 24), List.all_append, w_t5, ← List.take_append_drop 24 (((((words1.drop 24).drop 24).drop 24).drop 24).drop 24), List.all_append, w_t6, ← List.take_append_drop 24 ((((((words1.drop 24).drop 24).drop 24).drop 24).drop 24).drop 24), List.all_append, w_t7, ← List.take_append_drop 24 (((((((words1.drop 24).drop 24).drop 24).drop 24).drop 24).drop 24).drop 24), List.all_append, w_t8, ← List.take_append_drop 24 ((((((((words1.drop 24).drop 24).drop 24).drop 24).drop 24).drop 24).drop 24).drop 24), List.all_append, w_t9, ← List.take_append_drop 24 (((((((((words1.drop 24).drop 24).drop 24).drop 24).drop 24).drop 24).drop 24).drop 24).drop 24), List.all_append, w_t10, w_t11]
  rfl
set_option maxRecDepth 65536 in
theorem w_case : (Jvm.Cond.and given_1 narrow_1).before args0 about1 = true := by decide +kernel
theorem w_applies : (headSpec (Jvm.Cond.code x code maxLocals ret :: tables_1) room_1).applies x e0.platform about1 = true :=
  (Spec.applies_iff w_frames).mpr ⟨w_running, w_runnable, w_alone, w_named, w_hears, w_ripe, w_room, w_tables⟩
theorem atStart : AtStart classFile x code maxLocals ret World_1 tables_1 room_1 Calls_1 rest_1 Pre_1 launch0 p0 e0 about1 theMethod args0 below0 :=
  ⟨lists_1, trivial, launch0.admits_env _ _ _, launch0.least_env, fairChoices_fair.cas, fairChoices_fair.clock, w_frames, w_args, w_heap, w_applies, trivial, trivial, w_case⟩
end start1
theorem witness_1 : WitnessClaimed_1 := ⟨start1.p0, start1.e0, start1.about1, start1.theMethod, start1.args0, start1.below0, start1.atStart⟩
end Jvm.Pilot.@@N@@
