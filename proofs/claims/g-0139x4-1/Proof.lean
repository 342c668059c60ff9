import JvmDerived
import JvmDerived.Pilot.@@N@@Statement
import JvmDerived.Pilot.@@N@@Code
set_option linter.unusedVariables false
set_option linter.unusedSimpArgs false
namespace Jvm.RoadKit
open Sem ClassFile Op Lib Jvm.Stand Jvm.Free Jvm.LawKit
section New
variable {p : Program} {l : Launch} {e : Env} {R : Room} {s : State} {m : MethodId} {args : Array Value} {below : List Frame} {meth : Method} {c : Code} {T : State} {locs : List Loc} {cells slots : Nat}
theorem retI (X : Stand p l e R s m args below meth c T locs cells slots) (hx : p.tables.exec = Jvm.exec) {pc : Nat} {Ls : Array Slot} {z : Int32} {rest : List Value} (hret : meth.sig.returnType = some .int) (hd : decode c.code pc = .ok (.ireturn, 1)) {fs : List Frame}
    (hl : ∀ (f : JFrame) (acts : List Action), f.method = m → f.locked = none → f.entered = [] → (doReturn e (T.setTop f) acts (some (.int z))).1 = T.setFrames fs) : Steps p.tables e below (T.setTop (mkF m pc Ls (.int z :: rest))) (T.setFrames fs) := by
  have hm' : T.vm.method? m = some meth := X.method'
  have hn : narrow .int (.int z) = .int z := rfl
  show Steps p.tables e below (T.setTop { method := m, pc := pc, locals := Ls, stack := _ :: rest, locked := none }) _
  jvm_step X.here [X.here.top, hx, hd, hm', hret, hn]
  first | (intro acts; rw [hl _ acts rfl rfl rfl]) | rw [hl _ _ rfl rfl rfl]
  exact Steps.refl _
end New
end Jvm.RoadKit
namespace Jvm.Pilot.@@N@@
open Jvm Jvm.ClassFile Sem Op Lib Jvm.Free Jvm.Stand Jvm.LawKit Jvm.RoadKit Bundle Jvm.Pilot.@@N@@.Jvm.D
/- records: scalars, int-like arrays, long arrays -/
abbrev Rec : Type := (Nat → Int32) × (Nat → Int32 → Int32) × (Nat → Int32 → Int64)
def zrec : Rec := (fun _ => 0, fun _ _ => 0, fun _ _ => 0)
def gI (ob : Rec) (k : Nat) : Int32 := ob.1 k
def gA (ob : Rec) (k : Nat) (i : Int32) : Int32 := ob.2.1 k i
def gJ (ob : Rec) (k : Nat) (i : Int32) : Int64 := ob.2.2 k i
def sI (ob : Rec) (k : Nat) (v : Int32) : Rec := (fun j => if j = k then v else ob.1 j, ob.2)
def sA (ob : Rec) (k : Nat) (i v : Int32) : Rec := (ob.1, fun j x => if j = k ∧ x = i then v else ob.2.1 j x, ob.2.2)
def sJ (ob : Rec) (k : Nat) (i : Int32) (v : Int64) : Rec := (ob.1, ob.2.1, fun j x => if j = k ∧ x = i then v else ob.2.2 j x)
def chk {γ : Type} (n i : Int32) (A : Option γ) : Option γ := if i < 0 then none else if i < n then A else none
def dvz {γ : Type} (y : Int32) (A : Option γ) : Option γ := if y = 0 then none else A
def bind2 {α β γ : Type} (o : Option (α × β)) (f : α → β → Option γ) : Option γ := o.bind fun q => f q.1 q.2
def bind3 {α β γ δ : Type} (o : Option (α × β × δ)) (f : α → β → δ → Option γ) : Option γ := o.bind fun q => f q.1 q.2.1 q.2.2
theorem ite_el {c : Prop} [Decidable c] {γ : Type} {A B : Option γ} {r : γ} {Q : Prop} (h : (if c then A else B) = some r) (t : c → A = some r → Q) (e : ¬ c → B = some r → Q) : Q := by
  by_cases hc : c
  · rw [if_pos hc] at h; exact t hc h
  · rw [if_neg hc] at h; exact e hc h
theorem bind_el {α γ : Type} {o : Option α} {f : α → Option γ} {r : γ} {Q : Prop} (h : o.bind f = some r) (k : ∀ x, o = some x → f x = some r → Q) : Q := by
  cases o with
  | none => cases h
  | some x => exact k x rfl h
theorem bind2_el {α β γ : Type} {o : Option (α × β)} {f : α → β → Option γ} {r : γ} {Q : Prop} (h : bind2 o f = some r) (k : ∀ x y, o = some (x, y) → f x y = some r → Q) : Q := by
  rcases o with _ | ⟨x, y⟩
  · cases h
  · exact k x y rfl h
theorem bind3_el {α β γ δ : Type} {o : Option (α × β × δ)} {f : α → β → δ → Option γ} {r : γ} {Q : Prop} (h : bind3 o f = some r) (k : ∀ x y z, o = some (x, y, z) → f x y z = some r → Q) : Q := by
  rcases o with _ | ⟨x, y, z⟩
  · cases h
  · exact k x y z rfl h
theorem chk_el {γ : Type} {n i : Int32} {A : Option γ} {r : γ} {Q : Prop} (h : chk n i A = some r) (k : (¬ i < 0 ∧ i < n) → A = some r → Q) : Q := by
  unfold chk at h
  by_cases h0 : i < 0
  · rw [if_pos h0] at h; cases h
  · rw [if_neg h0] at h
    by_cases h1 : i < n
    · rw [if_pos h1] at h; exact k ⟨h0, h1⟩ h
    · rw [if_neg h1] at h; cases h
theorem dvz_el {γ : Type} {y : Int32} {A : Option γ} {r : γ} {Q : Prop} (h : dvz y A = some r) (k : y ≠ 0 → A = some r → Q) : Q := by
  unfold dvz at h
  by_cases h0 : y = 0
  · rw [if_pos h0] at h; cases h
  · rw [if_neg h0] at h; exact k h0 h
def All {α : Type} (p : α → Prop) : List α → Prop
  | [] => True
  | x :: l => p x ∧ All p l
theorem All.mem {α : Type} {p : α → Prop} : ∀ {l : List α}, All p l → ∀ {x : α}, x ∈ l → p x
  | [], _, _, h => nomatch h
  | _ :: _, H, _, h => (List.mem_cons.mp h).elim (fun e => e ▸ H.1) (fun e => All.mem H.2 e)
def el (ty : FieldType) (ob : Rec) (k : Nat) (j : Int32) : Value := match ty with
  | .long => .long (ob.2.2 k j)
  | _ => .int (ob.2.1 k j)
def aD (ty : FieldType) : String := match ty with
  | .int => "[I"
  | .boolean => "[Z"
  | _ => "[J"
abbrev Cls : Type := String × List (String × String) × List (String × FieldType × Int32)
abbrev mem1 (k : Nat) {d : Jvm.Cond} (h : tables_1[k]? = some d) : d ∈ tables_1 := List.mem_of_getElem? h
abbrev sOk (C : String) (nd : String × String) : Prop := (Jvm.Cond.lays C C nd.1 nd.2 ∈ tables_1 ∨ Jvm.Cond.laysFinal C C nd.1 nd.2 ∈ tables_1) ∧ (nd.2 = "I" ∨ nd.2 = "Z")
abbrev aOk (C : String) (t : String × FieldType × Int32) : Prop := (Jvm.Cond.lays C C t.1 (aD t.2.1) ∈ tables_1 ∨ Jvm.Cond.laysFinal C C t.1 (aD t.2.1) ∈ tables_1) ∧ (t.2.1 = .int ∨ t.2.1 = .boolean ∨ t.2.1 = .long) ∧ ¬ t.2.2 < 0
def K : Cls := ("XorGaussSat", [("n", "I"), ("fullMask", "I"), ("status", "I"), ("model", "I"), ("pendLen", "I"), ("clauseCnt", "I"), ("xorCnt", "I"), ("orderLen", "I"), ("echRank", "I"), ("echConsistent", "Z"), ("echValid", "Z")], [("pendVar", .int, 8), ("pendNeg", .boolean, 8), ("clausePos", .int, 24), ("clauseNeg", .int, 24), ("xorMask", .int, 16), ("xorRhs", .int, 16), ("order", .int, 40), ("echMask", .int, 16), ("echRhs", .int, 16), ("echPivot", .int, 16), ("gMask", .int, 16), ("gRhs", .int, 16), ("gPivot", .int, 16), ("trail", .int, 12), ("lvlVar", .int, 13), ("lvlStart", .int, 13), ("lvlFlipped", .boolean, 13)])
theorem kS : All (sOk K.1) K.2.1 := ⟨⟨Or.inl (mem1 46 rfl), Or.inl rfl⟩, ⟨Or.inl (mem1 48 rfl), Or.inl rfl⟩, ⟨Or.inl (mem1 50 rfl), Or.inl rfl⟩, ⟨Or.inl (mem1 52 rfl), Or.inl rfl⟩, ⟨Or.inl (mem1 54 rfl), Or.inl rfl⟩, ⟨Or.inl (mem1 56 rfl), Or.inl rfl⟩, ⟨Or.inl (mem1 58 rfl), Or.inl rfl⟩, ⟨Or.inl (mem1 60 rfl), Or.inl rfl⟩, ⟨Or.inl (mem1 66 rfl), Or.inl rfl⟩, ⟨Or.inl (mem1 64 rfl), Or.inr rfl⟩, ⟨Or.inl (mem1 62 rfl), Or.inr rfl⟩, trivial⟩
theorem kA : All (aOk K.1) K.2.2 := ⟨⟨Or.inr (mem1 11 rfl), Or.inl rfl, by decide⟩, ⟨Or.inr (mem1 14 rfl), Or.inr (Or.inl rfl), by decide⟩, ⟨Or.inr (mem1 16 rfl), Or.inl rfl, by decide⟩, ⟨Or.inr (mem1 18 rfl), Or.inl rfl, by decide⟩, ⟨Or.inr (mem1 20 rfl), Or.inl rfl, by decide⟩, ⟨Or.inr (mem1 22 rfl), Or.inl rfl, by decide⟩, ⟨Or.inr (mem1 24 rfl), Or.inl rfl, by decide⟩, ⟨Or.inr (mem1 26 rfl), Or.inl rfl, by decide⟩, ⟨Or.inr (mem1 28 rfl), Or.inl rfl, by decide⟩, ⟨Or.inr (mem1 30 rfl), Or.inl rfl, by decide⟩, ⟨Or.inr (mem1 32 rfl), Or.inl rfl, by decide⟩, ⟨Or.inr (mem1 34 rfl), Or.inl rfl, by decide⟩, ⟨Or.inr (mem1 36 rfl), Or.inl rfl, by decide⟩, ⟨Or.inr (mem1 38 rfl), Or.inl rfl, by decide⟩, ⟨Or.inr (mem1 40 rfl), Or.inl rfl, by decide⟩, ⟨Or.inr (mem1 42 rfl), Or.inl rfl, by decide⟩, ⟨Or.inr (mem1 44 rfl), Or.inr (Or.inl rfl), by decide⟩, trivial⟩
abbrev kN : Nat := 35
theorem kI : Jvm.Cond.instantiable K.1 kN ∈ tables_1 := mem1 1 rfl
theorem kZ : Jvm.Cond.initialized K.1 ∈ tables_1 := mem1 2 rfl
theorem kNm : (K.2.1.map (·.1) ++ K.2.2.map (·.1)).Nodup := by decide +kernel
theorem nm_ss {k k' : Nat} {nd nd' : String × String} (h : K.2.1[k]? = some nd) (h' : K.2.1[k']? = some nd') (ne : k ≠ k') : nd.1 ≠ nd'.1 := fun e => by
  have l := (List.getElem?_eq_some_iff.mp h).1
  have l' := (List.getElem?_eq_some_iff.mp h').1
  refine ne ((List.getElem?_inj (l := K.2.1.map (·.1) ++ K.2.2.map (·.1)) (i := k) (j := k') (by simp; omega) kNm).mp ?_)
  rw [List.getElem?_append_left (by simpa using l), List.getElem?_append_left (by simpa using l'), List.getElem?_map, List.getElem?_map, h, h']
  simp [e]
theorem nm_aa {k k' : Nat} {t t' : String × FieldType × Int32} (h : K.2.2[k]? = some t) (h' : K.2.2[k']? = some t') (ne : k ≠ k') : t.1 ≠ t'.1 := fun e => by
  have l := (List.getElem?_eq_some_iff.mp h).1
  have l' := (List.getElem?_eq_some_iff.mp h').1
  have q := (List.getElem?_inj (l := K.2.1.map (·.1) ++ K.2.2.map (·.1)) (i := K.2.1.length + k) (j := K.2.1.length + k') (by simp; omega) kNm).mp (by
    rw [List.getElem?_append_right (by simp), List.getElem?_append_right (by simp)]
    simp [h, h', e])
  omega
theorem nm_sa {k k' : Nat} {nd : String × String} {t : String × FieldType × Int32} (h : K.2.1[k]? = some nd) (h' : K.2.2[k']? = some t) : nd.1 ≠ t.1 := fun e => by
  have l := (List.getElem?_eq_some_iff.mp h).1
  have l' := (List.getElem?_eq_some_iff.mp h').1
  have q := (List.getElem?_inj (l := K.2.1.map (·.1) ++ K.2.2.map (·.1)) (i := k) (j := K.2.1.length + k') (by simp; omega) kNm).mp (by
    rw [List.getElem?_append_left (by simpa using l), List.getElem?_append_right (by simp)]
    simp [h, h', e])
  omega
abbrev Ctx : Type := Launch × State × Nat × Array Value
def Ok (C : Ctx) : Prop := ∀ d ∈ tables_1, d.before C.2.2.2 C.2.1 = true
def ArrAt (Z : State) (h : Heap) (b : Nat) (ty : FieldType) (len : Int32) (v : Int32 → Value) : Prop := ∃ cl : Cell, Arr Z h b cl ty ∧ cl.slots.size = len.toNatClampNeg ∧ ∀ j : Int32, ¬ j < 0 → j < len → cl.slots[j.toNatClampNeg]? = some (v j)
def ObjAt (Z : State) (h : Heap) (a : Nat) (q : Nat) (ob : Rec) : Prop :=
  Exa Z h a K.1 ∧ (∀ k nd, K.2.1[k]? = some nd → Fld Z h a K.1 nd.1 nd.2 (.int (ob.1 k))) ∧
  (∀ k t, K.2.2[k]? = some t → k < q → Fld Z h a K.1 t.1 (aD t.2.1) (.ref (a + 1 + k)) ∧ ArrAt Z h (a + 1 + k) t.2.1 t.2.2 (el t.2.1 ob k)) ∧
  (∀ k t, K.2.2[k]? = some t → q ≤ k → Fld Z h a K.1 t.1 (aD t.2.1) .null)
abbrev AH : Type := Nat × List (Nat × Nat × Rec)
def Rep (Z : State) (n0 : Nat) (h : Heap) (G : AH) : Prop :=
  h.size = G.1 ∧ Old Z n0 h ∧ (∀ x ∈ G.2, n0 ≤ x.1 ∧ x.1 + x.2.1 < G.1 ∧ ObjAt Z h x.1 x.2.1 x.2.2) ∧ G.2.Pairwise (fun x y => x.1 + x.2.1 < y.1 ∨ y.1 + y.2.1 < x.1)
section Facts
variable {Z : State} {h h' : Heap} {a b : Nat} {q k n0 top : Nat} {ob ob' : Rec} {nd : String × String} {t : String × FieldType × Int32} {a0 : Array Value} {sl : Nat} {v : Value} {H : List (Nat × Nat × Rec)} {G : AH}
theorem fld_fr {C n d : String} (e : h'[a]? = h[a]?) (F : Fld Z h a C n d v) : Fld Z h' a C n d v := by
  obtain ⟨cell, cf, k, i, f, h1, r⟩ := F; exact ⟨cell, cf, k, i, f, e.trans h1, r⟩
theorem exa_fr {C : String} (e : h'[a]? = h[a]?) (F : Exa Z h a C) : Exa Z h' a C := by
  obtain ⟨cell, k, h1, r⟩ := F; exact ⟨cell, k, e.trans h1, r⟩
theorem arrAt_fr {ty : FieldType} {len : Int32} {w : Int32 → Value} (e : h'[a]? = h[a]?) (F : ArrAt Z h a ty len w) : ArrAt Z h' a ty len w := by
  obtain ⟨cl, A, r⟩ := F; exact ⟨cl, ⟨e.trans A.1, A.2⟩, r⟩
theorem ObjAt.frame (e : ∀ b, a ≤ b → b ≤ a + q → h'[b]? = h[b]?) (F : ObjAt Z h a q ob) : ObjAt Z h' a q ob := by
  have e0 := e a (Nat.le_refl _) (Nat.le_add_right _ _)
  refine ⟨exa_fr e0 F.1, fun k nd hk => fld_fr e0 (F.2.1 k nd hk), fun k t hk hq => ⟨fld_fr e0 (F.2.2.1 k t hk hq).1, arrAt_fr (e _ (by omega) (by omega)) (F.2.2.1 k t hk hq).2⟩, fun k t hk hq => fld_fr e0 (F.2.2.2 k t hk hq)⟩
theorem ObjAt.ext (E : Ext h h') (F : ObjAt Z h a q ob) : ObjAt Z h' a q ob := by
  refine ⟨F.1.ext E, fun k nd hk => (F.2.1 k nd hk).ext E, fun k t hk hq => ⟨(F.2.2.1 k t hk hq).1.ext E, ?_⟩, fun k t hk hq => (F.2.2.2 k t hk hq).ext E⟩
  obtain ⟨cl, A, r⟩ := (F.2.2.1 k t hk hq).2; exact ⟨cl, A.ext E, r⟩
theorem wr_ne (W : Wr h h' a sl v) (ne : b ≠ a) : h'[b]? = h[b]? := by
  obtain ⟨cell, -, -, -, rfl⟩ := W; exact Array.getElem?_setIfInBounds_ne (Ne.symm ne)
theorem laidS (hw : ∀ d ∈ tables_1, d.before a0 Z = true) (hk : K.2.1[k]? = some nd) : Laid Z a0 K.1 K.1 nd.1 nd.2 := ((All.mem kS (List.mem_of_getElem? hk)).1).imp (hw _) (hw _)
theorem laidA (hw : ∀ d ∈ tables_1, d.before a0 Z = true) (hk : K.2.2[k]? = some t) : Laid Z a0 K.1 K.1 t.1 (aD t.2.1) := ((All.mem kA (List.mem_of_getElem? hk)).1).imp (hw _) (hw _)
theorem pfS (hk : K.2.1[k]? = some nd) : ∃ ty, parseFieldDescriptor nd.2 = some ty := by
  rcases (All.mem kS (List.mem_of_getElem? hk)).2 with e | e <;> rw [e]
  · exact ⟨.int, by decide⟩
  · exact ⟨.boolean, by decide⟩
theorem pfA (hk : K.2.2[k]? = some t) : parseFieldDescriptor (aD t.2.1) = some (.array t.2.1) := by
  rcases (All.mem kA (List.mem_of_getElem? hk)).2.1 with e | e | e <;> rw [e] <;> decide
theorem ObjAt.putI {x : Int32} (hw : ∀ d ∈ tables_1, d.before a0 Z = true) (F : ObjAt Z h a q ob) (hk : K.2.1[k]? = some nd) (W : Wr h h' a (Jvm.RoadKit.slotOf Z K.1 nd.1 nd.2) (.int x)) : ObjAt Z h' a q (sI ob k x) := by
  obtain ⟨ty, hty⟩ := pfS hk
  refine ⟨F.1.wr W, fun k' nd' hk' => ?_, fun k' t hk' hq => ⟨(F.2.2.1 k' t hk' hq).1.other W (Or.inr (Jvm.RoadKit.slot_ne (laidA hw hk') (laidS hw hk) (Ne.symm (nm_sa hk hk')) (pfA hk') hty)), ?_⟩, fun k' t hk' hq => (F.2.2.2 k' t hk' hq).other W (Or.inr (Jvm.RoadKit.slot_ne (laidA hw hk') (laidS hw hk) (Ne.symm (nm_sa hk hk')) (pfA hk') hty))⟩
  · by_cases e : k' = k
    · subst e; cases hk.symm.trans hk'
      have := (F.2.1 k' nd hk).same W
      simpa [sI] using this
    · obtain ⟨ty', hty'⟩ := pfS hk'
      have := (F.2.1 k' nd' hk').other W (Or.inr (Jvm.RoadKit.slot_ne (laidS hw hk') (laidS hw hk) (nm_ss hk' hk e) hty' hty))
      simpa [sI, e] using this
  · have := arrAt_fr (wr_ne W (by omega)) (F.2.2.1 k' t hk' hq).2
    have e : el t.2.1 (sI ob k x) k' = el t.2.1 ob k' := by funext j; unfold el; split <;> rfl
    rw [e]; exact this
theorem ObjAt.putA (F : ObjAt Z h a q ob) (hk : K.2.2[k]? = some t) (hq : k < q) {x : Value} {j : Int32} (hj : ¬ j < 0 ∧ j < t.2.2) (W : Wr h h' (a + 1 + k) j.toNatClampNeg x)
    (e1 : el t.2.1 ob' k = fun i => if i = j then x else el t.2.1 ob k i) (e2 : ∀ k' t', k' ≠ k → el t' ob' k' = el t' ob k') (e3 : ob'.1 = ob.1) : ObjAt Z h' a q ob' := by
  have u : h'[a]? = h[a]? := wr_ne W (by omega)
  refine ⟨exa_fr u F.1, fun k' nd hk' => by rw [e3]; exact fld_fr u (F.2.1 k' nd hk'), fun k' t' hk' hq' => ⟨fld_fr u (F.2.2.1 k' t' hk' hq').1, ?_⟩, fun k' t' hk' hq' => fld_fr u (F.2.2.2 k' t' hk' hq')⟩
  by_cases e : k' = k
  · subst e; cases hk.symm.trans hk'
    obtain ⟨cl, A, S, V⟩ := (F.2.2.1 k' t hk hq).2
    have inb : ¬ (j < 0 ∨ cl.slots.size ≤ j.toNatClampNeg) := inb_of S hj
    refine ⟨_, A.same W, by rw [sz_set]; exact S, fun i h0 h1 => ?_⟩
    rw [e1]
    by_cases ei : i = j
    · simp only [ei, if_true]; exact get_hit inb rfl
    · simp only [ei, if_false]; rw [get_miss hj.1 h0 ei]; exact V i h0 h1
  · rw [e2 k' _ e]; exact arrAt_fr (wr_ne W (by omega)) (F.2.2.1 k' t' hk' hq').2
theorem el_sA {ty : FieldType} (ht : ty ≠ .long) (j x : Int32) : el ty (sA ob k j x) k = fun i => if i = j then .int x else el ty ob k i := by
  funext i; cases ty <;> first | exact absurd rfl ht | (simp only [el, sA, true_and]; split <;> rfl)
theorem el_sJ (j : Int32) (x : Int64) : el .long (sJ ob k j x) k = fun i => if i = j then .long x else el .long ob k i := by
  funext i; simp only [el, sJ, true_and]; split <;> rfl
theorem el_sA' (j x : Int32) (k' : Nat) (t' : FieldType) (ne : k' ≠ k) : el t' (sA ob k j x) k' = el t' ob k' := by
  funext i; cases t' <;> simp [el, sA, ne]
theorem el_sJ' (j : Int32) (x : Int64) (k' : Nat) (t' : FieldType) (ne : k' ≠ k) : el t' (sJ ob k j x) k' = el t' ob k' := by
  funext i; cases t' <;> simp [el, sJ, ne]
theorem Rep.upd (R : Rep Z n0 h (top, (a, q, ob) :: H)) (hs : h'.size = h.size) (hO : Old Z n0 h') (e : ∀ b, (b < a ∨ a + q < b) → h'[b]? = h[b]?) (F : ObjAt Z h' a q ob') : Rep Z n0 h' (top, (a, q, ob') :: H) := by
  obtain ⟨r1, r2, r3, r4⟩ := R
  refine ⟨hs.trans r1, hO, fun x hx => ?_, ?_⟩
  · rcases List.mem_cons.mp hx with rfl | hx
    · exact ⟨(r3 _ (List.mem_cons_self ..)).1, (r3 _ (List.mem_cons_self ..)).2.1, F⟩
    · obtain ⟨p1, p2, p3⟩ := r3 x (List.mem_cons_of_mem _ hx)
      refine ⟨p1, p2, p3.frame fun b h1 h2 => e b ?_⟩
      have := (List.pairwise_cons.mp r4).1 x hx
      simp only at this
      omega
  · have := List.pairwise_cons.mp r4
    exact List.pairwise_cons.mpr ⟨fun y hy => this.1 y hy, this.2⟩
theorem Rep.objs (R : Rep Z n0 h (top, (a, q, ob) :: H)) : n0 ≤ a ∧ a + q < top ∧ ObjAt Z h a q ob := R.2.2.1 _ (List.mem_cons_self ..)
theorem Rep.putI {x : Int32} (hw : ∀ d ∈ tables_1, d.before a0 Z = true) (R : Rep Z n0 h (top, (a, q, ob) :: H)) (hk : K.2.1[k]? = some nd) (W : Wr h h' a (Jvm.RoadKit.slotOf Z K.1 nd.1 nd.2) (.int x)) : Rep Z n0 h' (top, (a, q, sI ob k x) :: H) :=
  R.upd W.size (R.2.1.wr W R.objs.1) (fun b hb => wr_ne W (by omega)) (R.objs.2.2.putI hw hk W)
theorem Rep.putA {x j : Int32} (R : Rep Z n0 h (top, (a, q, ob) :: H)) (hk : K.2.2[k]? = some t) (hq : k < q) (ht : t.2.1 ≠ .long) (hj : ¬ j < 0 ∧ j < t.2.2) (W : Wr h h' (a + 1 + k) j.toNatClampNeg (.int x)) : Rep Z n0 h' (top, (a, q, sA ob k j x) :: H) :=
  R.upd W.size (R.2.1.wr W (by have := R.objs.1; omega)) (fun b hb => wr_ne W (by omega)) (R.objs.2.2.putA hk hq hj W (el_sA ht j x) (fun k' t' ne => el_sA' j x k' t' ne) rfl)
theorem Rep.putJ {j : Int32} {x : Int64} (R : Rep Z n0 h (top, (a, q, ob) :: H)) (hk : K.2.2[k]? = some t) (hq : k < q) (ht : t.2.1 = .long) (hj : ¬ j < 0 ∧ j < t.2.2) (W : Wr h h' (a + 1 + k) j.toNatClampNeg (.long x)) : Rep Z n0 h' (top, (a, q, sJ ob k j x) :: H) :=
  R.upd W.size (R.2.1.wr W (by have := R.objs.1; omega)) (fun b hb => wr_ne W (by omega)) (R.objs.2.2.putA hk hq hj W (by rw [ht]; exact el_sJ j x) (fun k' t' ne => el_sJ' j x k' t' ne) rfl)
theorem Rep.swap {x y : Nat × Nat × Rec} (R : Rep Z n0 h (top, x :: y :: H)) : Rep Z n0 h (top, y :: x :: H) := by
  obtain ⟨r1, r2, r3, r4⟩ := R
  refine ⟨r1, r2, fun z hz => r3 z ?_, ?_⟩
  · simp only [List.mem_cons] at hz ⊢
    rcases hz with e | e | e
    · exact Or.inr (Or.inl e)
    · exact Or.inl e
    · exact Or.inr (Or.inr e)
  · simp only [List.pairwise_cons, List.mem_cons] at r4 ⊢
    obtain ⟨p1, p2, p3⟩ := r4
    refine ⟨fun z hz => ?_, fun z hz => p1 z (Or.inr hz), p3⟩
    rcases hz with rfl | hz
    · exact (p1 _ (Or.inl rfl)).symm
    · exact p2 z hz
theorem ObjAt.addA (hw : ∀ d ∈ tables_1, d.before a0 Z = true) (F : ObjAt Z h a k ob) (hk : K.2.2[k]? = some t) (A : ArrAt Z h (a + 1 + k) t.2.1 t.2.2 (el t.2.1 ob k)) (W : Wr h h' a (Jvm.RoadKit.slotOf Z K.1 t.1 (aD t.2.1)) (.ref (a + 1 + k))) : ObjAt Z h' a (k + 1) ob := by
  refine ⟨F.1.wr W, fun k' nd hk' => ?_, fun k' t' hk' hq => ?_, fun k' t' hk' hq => ?_⟩
  · obtain ⟨ty', hty'⟩ := pfS hk'
    exact (F.2.1 k' nd hk').other W (Or.inr (Jvm.RoadKit.slot_ne (laidS hw hk') (laidA hw hk) (nm_sa hk' hk) hty' (pfA hk)))
  · by_cases e : k' = k
    · subst e
      have et : t = t' := Option.some.inj (hk.symm.trans hk')
      subst et
      exact ⟨(F.2.2.2 k' t hk (Nat.le_refl _)).same W, arrAt_fr (wr_ne W (by omega)) A⟩
    · obtain ⟨f1, f2⟩ := F.2.2.1 k' t' hk' (by omega)
      exact ⟨f1.other W (Or.inr (Jvm.RoadKit.slot_ne (laidA hw hk') (laidA hw hk) (nm_aa hk' hk e) (pfA hk') (pfA hk))), arrAt_fr (wr_ne W (by omega)) f2⟩
  · exact (F.2.2.2 k' t' hk' (by omega)).other W (Or.inr (Jvm.RoadKit.slot_ne (laidA hw hk') (laidA hw hk) (nm_aa hk' hk (by omega)) (pfA hk') (pfA hk)))
theorem Rep.addA {h1 h2 : Heap} (hw : ∀ d ∈ tables_1, d.before a0 Z = true) (R : Rep Z n0 h (top, (a, k, ob) :: H)) (E : Ext h h1) (s1 : h1.size = top + 1) (htop : top = a + 1 + k) (hk : K.2.2[k]? = some t) (A : ArrAt Z h1 top t.2.1 t.2.2 (el t.2.1 ob k)) (W : Wr h1 h2 a (Jvm.RoadKit.slotOf Z K.1 t.1 (aD t.2.1)) (.ref top)) : Rep Z n0 h2 (top + 1, (a, k + 1, ob) :: H) := by
  obtain ⟨q1, q2, q3⟩ := R.objs
  have hp := List.pairwise_cons.mp R.2.2.2
  have hO : ObjAt Z h2 a (k + 1) ob := by
    subst htop
    exact (q3.ext E).addA hw hk A W
  refine ⟨W.size.trans s1, (R.2.1.ext E).wr W q1, List.forall_mem_cons.mpr ⟨⟨q1, ?_, hO⟩, fun x hx => ?_⟩, List.pairwise_cons.mpr ⟨fun y hy => ?_, hp.2⟩⟩
  · show a + (k + 1) < top + 1; omega
  · obtain ⟨p1, p2, p3⟩ := R.2.2.1 x (List.mem_cons_of_mem _ hx)
    have u1 : a + k < x.1 ∨ x.1 + x.2.1 < a := hp.1 x hx
    have u2 : x.1 + x.2.1 < top := p2
    exact ⟨p1, Nat.lt_succ_of_lt u2, (p3.ext E).frame fun b h1 h2 => wr_ne W (by omega)⟩
  · have u1 : a + k < y.1 ∨ y.1 + y.2.1 < a := hp.1 y hy
    have u2 : y.1 + y.2.1 < top := (R.2.2.1 y (List.mem_cons_of_mem _ hy)).2.1
    show a + (k + 1) < y.1 ∨ y.1 + y.2.1 < a
    omega
theorem arr_new {cA : ClassId} {ty : FieldType} {len : Int32} (A : Arr Z h b (newA cA ty len) ty) (hts : ty = .int ∨ ty = .boolean ∨ ty = .long) (hz : (∀ i, ob.2.1 k i = 0) ∧ (∀ i, ob.2.2 k i = 0)) : ArrAt Z h b ty len (el ty ob k) := by
  refine ⟨_, A, sz_new _ _ _, fun i h0 h1 => ?_⟩
  have hi : ¬ (i < 0 ∨ len.toNatClampNeg ≤ i.toNatClampNeg) := by
    have e0 : (0 : Int32).toInt = 0 := rfl
    simp only [Int32.lt_iff_toInt_lt, Int32.toNatClampNeg] at *
    omega
  rw [get_new hi]
  rcases hts with rfl | rfl | rfl
  · show some (Value.int 0) = some (Value.int (ob.2.1 k i)); rw [hz.1]
  · show some (Value.int 0) = some (Value.int (ob.2.1 k i)); rw [hz.1]
  · show some (Value.long 0) = some (Value.long (ob.2.2 k i)); rw [hz.2]
theorem Rep.start (s : State) : Rep s s.heap.size s.heap (s.heap.size, []) := ⟨rfl, Old.start s, fun x hx => (by cases hx), List.Pairwise.nil⟩
end Facts
/- bodies, decode facts, patterns of local variables -/
abbrev Bdy : Type := MethodName × ByteArray × Nat × Option FieldType × Room
def DAt (M : Bdy) (pc : Nat) (i : Instr) (n q : Nat) : Prop := decode M.2.1 pc = .ok (i, n) ∧ q = pc + n
abbrev Pat : Type := List (Option Slot)
abbrev vi (x : Int32) : Option Slot := some (.val (.int x))
abbrev vl (x : Int64) : Option Slot := some (.val (.long x))
abbrev vr (a : Nat) : Option Slot := some (.val (.ref a))
abbrev v2 : Option Slot := some .second
abbrev vn : Option Slot := none
def pget : Pat → Nat → Option Slot
  | [], _ => none
  | x :: _, 0 => x
  | _ :: l, n + 1 => pget l n
theorem pget_eq : ∀ (P : Pat) (i : Nat), pget P i = (P[i]?).join
  | [], _ => by simp [pget]
  | x :: l, 0 => by simp [pget]
  | x :: l, n + 1 => by simp [pget, pget_eq l n]
def pput : Pat → Nat → Option Slot → Pat
  | [], _, _ => []
  | _ :: l, 0, y => y :: l
  | x :: l, n + 1, y => x :: pput l n y
theorem pget_pput : ∀ (P : Pat) (i j : Nat) (y : Option Slot) (s : Slot), pget (pput P i y) j = some s → (j = i ∧ y = some s) ∨ (j ≠ i ∧ pget P j = some s)
  | [], _, _, _, _, h => by simp [pput, pget] at h
  | x :: l, 0, 0, y, s, h => Or.inl ⟨rfl, h⟩
  | x :: l, 0, j + 1, y, s, h => Or.inr ⟨by omega, h⟩
  | x :: l, i + 1, 0, y, s, h => Or.inr ⟨by omega, h⟩
  | x :: l, i + 1, j + 1, y, s, h => by
    rcases pget_pput l i j y s h with ⟨e, r⟩ | ⟨e, r⟩
    · exact Or.inl ⟨by omega, r⟩
    · exact Or.inr ⟨by omega, r⟩
/-- a two-word value whose first word is at i is forgotten -/
def pk1 (P : Pat) (i : Nat) : Pat := match pget P i with
  | some (.val (.long _)) => pput P i none
  | some (.val (.double _)) => pput P i none
  | _ => P
def pk2 (P : Pat) (i : Nat) : Pat := match pget P i with
  | some .second => pput P i none
  | _ => P
def pkp (P : Pat) : Nat → Pat
  | 0 => P
  | i + 1 => pk1 P i
def ps1 (P : Pat) (i : Nat) (v : Value) : Pat := pput (pk2 (pkp P i) (i + 1)) i (some (.val v))
def ps2 (P : Pat) (i : Nat) (v : Value) : Pat := pput (pput (pk2 (pkp P i) (i + 2)) i (some (.val v))) (i + 1) (some .second)
def WFl (L : Array Slot) : Prop := (∀ i : Nat, L[i]? = some .second → ∃ (j : Nat) (v : Value), i = j + 1 ∧ L[j]? = some (.val v) ∧ v.category = 2) ∧ (∀ (i : Nat) (v : Value), L[i]? = some (.val v) → v.category = 2 → L[i + 1]? = some .second)
def Fits (P : Pat) (L : Array Slot) : Prop := (∀ i s, pget P i = some s → L[i]? = some s) ∧ WFl L
theorem pk1_sub {P : Pat} {i j : Nat} {s : Slot} (h : pget (pk1 P i) j = some s) : pget P j = some s ∧ (j = i → ∀ w : Value, s = .val w → w.category = 1) := by
  unfold pk1 at h
  split at h
  · rcases pget_pput _ _ _ _ _ h with ⟨-, e⟩ | ⟨e, r⟩
    · cases e
    · exact ⟨r, fun q => absurd q e⟩
  · rcases pget_pput _ _ _ _ _ h with ⟨-, e⟩ | ⟨e, r⟩
    · cases e
    · exact ⟨r, fun q => absurd q e⟩
  · rename_i h1 h2
    refine ⟨h, fun q w e => ?_⟩
    subst q e
    cases w <;> first | rfl | exact absurd h (h1 _) | exact absurd h (h2 _)
theorem pk2_sub {P : Pat} {i j : Nat} {s : Slot} (h : pget (pk2 P i) j = some s) : pget P j = some s ∧ (j = i → s ≠ .second) := by
  unfold pk2 at h
  split at h
  · rcases pget_pput _ _ _ _ _ h with ⟨-, e⟩ | ⟨e, r⟩
    · cases e
    · exact ⟨r, fun q => absurd q e⟩
  · rename_i h1
    refine ⟨h, fun q e => ?_⟩
    subst q e; exact h1 h
theorem pkp_sub {P : Pat} {i j : Nat} {s : Slot} (h : pget (pkp P i) j = some s) : pget P j = some s ∧ (j + 1 = i → ∀ w : Value, s = .val w → w.category = 1) := by
  cases i with
  | zero => exact ⟨h, fun q => by omega⟩
  | succ i => obtain ⟨h1, h2⟩ := pk1_sub (show pget (pk1 P i) j = some s from h); exact ⟨h1, fun q => h2 (by omega)⟩
theorem setAt_eq {L : Array Slot} {i : Nat} {x : Slot} (hi : i < L.size) : Jvm.setAt L i x = some (L.setIfInBounds i x) := by simp [Jvm.setAt, hi]
theorem sl_second {L : Array Slot} {i : Nat} {v : Value} (ho : L[i]? = some .second) : storeLocals L i v = (Jvm.setAt L (i - 1) .unset).bind fun l => storeSelf l i v := by
  unfold storeLocals; rw [ho]; rfl
theorem sl_unset {L : Array Slot} {i : Nat} {v : Value} (ho : L[i]? = some .unset) : storeLocals L i v = storeSelf L i v := by
  unfold storeLocals; rw [ho]; rfl
theorem sl_val {L : Array Slot} {i : Nat} {v o : Value} (ho : L[i]? = some (.val o)) : storeLocals L i v = if o.category = 2 then (Jvm.setAt L (i + 1) .unset).bind fun l => storeSelf l i v else storeSelf L i v := by
  unfold storeLocals; rw [ho]; rfl
theorem ss_one {L : Array Slot} {i : Nat} {v : Value} (hi : i < L.size) (hv : ¬ v.category = 2) : storeSelf L i v = some (L.setIfInBounds i (.val v)) := by
  unfold storeSelf; rw [setAt_eq hi]; simp [hv]
theorem ss_two {L : Array Slot} {i : Nat} {v : Value} {o : Slot} (hi : i < L.size) (hv : v.category = 2) (ho : L[i + 1]? = some o) : storeSelf L i v = (match o with
    | .val old => if old.category = 2 then (Jvm.setAt (L.setIfInBounds i (.val v)) (i + 2) .unset).bind fun l => Jvm.setAt l (i + 1) .second else Jvm.setAt (L.setIfInBounds i (.val v)) (i + 1) .second
    | _ => Jvm.setAt (L.setIfInBounds i (.val v)) (i + 1) .second) := by
  have e : (L.setIfInBounds i (.val v))[i + 1]? = some o := by rw [Array.getElem?_setIfInBounds_ne (by omega)]; exact ho
  unfold storeSelf; rw [setAt_eq hi]
  show (if v.category = 2 then _ else _) = _
  rw [if_pos hv, e]
  cases o <;> rfl
theorem cat12 (v : Value) : v.category = 1 ∨ v.category = 2 := by cases v <;> first | exact Or.inl rfl | exact Or.inr rfl
/-- a one-word store: what stands elsewhere stays, but for the halves of a two-word value that it breaks -/
theorem store_one {L : Array Slot} {i : Nat} {v : Value} (hW : WFl L) (hi : i < L.size) (hv : v.category = 1) :
    ∃ L', storeLocals L i v = some L' ∧ L'.size = L.size ∧ WFl L' ∧ L'[i]? = some (.val v) ∧ ∀ j, j ≠ i → L'[j]? = L[j]? ∨ (j + 1 = i ∧ L[i]? = some .second) ∨ (j = i + 1 ∧ L[j]? = some .second) := by
  have hv2 : ¬ v.category = 2 := by omega
  cases ho : L[i]? with
  | none => rw [Array.getElem?_eq_none_iff] at ho; omega
  | some o =>
    cases o with
    | unset =>
      refine ⟨L.setIfInBounds i (.val v), ?_, by simp, ?_, by simp [hi], fun j hj => Or.inl (Array.getElem?_setIfInBounds_ne (Ne.symm hj))⟩
      · rw [sl_unset ho, ss_one hi hv2]
      · refine ⟨fun j hj => ?_, fun j w hj hw => ?_⟩
        · by_cases e : j = i
          · subst e; simp [hi] at hj
          · rw [Array.getElem?_setIfInBounds_ne (Ne.symm e)] at hj
            obtain ⟨j', w, e1, e2, e3⟩ := hW.1 j hj
            refine ⟨j', w, e1, ?_, e3⟩
            rw [Array.getElem?_setIfInBounds_ne]; exact e2
            intro q; subst q; rw [ho] at e2; cases e2
        · by_cases e : j = i
          · subst e; simp [hi] at hj; subst hj; omega
          · rw [Array.getElem?_setIfInBounds_ne (Ne.symm e)] at hj
            have := hW.2 j w hj hw
            rw [Array.getElem?_setIfInBounds_ne]; exact this
            intro q; subst q; rw [ho] at this; cases this
    | second =>
      obtain ⟨j0, w0, rfl, f2, f3⟩ := hW.1 i ho
      have hj0 : j0 < L.size := by omega
      refine ⟨(L.setIfInBounds j0 .unset).setIfInBounds (j0 + 1) (.val v), ?_, by simp, ?_, by simp [hi], fun j hj => ?_⟩
      · rw [sl_second ho, show j0 + 1 - 1 = j0 from rfl, setAt_eq hj0]; exact ss_one (by simpa using hi) hv2
      · refine ⟨fun j hj => ?_, fun j w hj hw => ?_⟩
        · by_cases e : j = j0 + 1
          · subst e; simp [hi] at hj
          · rw [Array.getElem?_setIfInBounds_ne (Ne.symm e)] at hj
            by_cases e' : j = j0
            · subst e'; simp [hj0] at hj
            · rw [Array.getElem?_setIfInBounds_ne (Ne.symm e')] at hj
              obtain ⟨j', w, e1, e2, e3⟩ := hW.1 j hj
              refine ⟨j', w, e1, ?_, e3⟩
              rw [Array.getElem?_setIfInBounds_ne, Array.getElem?_setIfInBounds_ne]
              · exact e2
              · intro q; subst q; omega
              · intro q; subst q; rw [ho] at e2; cases e2
        · by_cases e : j = j0 + 1
          · subst e; simp [hi] at hj; subst hj; omega
          · rw [Array.getElem?_setIfInBounds_ne (Ne.symm e)] at hj
            by_cases e' : j = j0
            · subst e'; simp [hj0] at hj
            · rw [Array.getElem?_setIfInBounds_ne (Ne.symm e')] at hj
              have := hW.2 j w hj hw
              rw [Array.getElem?_setIfInBounds_ne, Array.getElem?_setIfInBounds_ne]
              · exact this
              · intro q; subst q; rw [f2] at this; cases this
              · omega
      · by_cases e' : j = j0
        · exact Or.inr (Or.inl ⟨by omega, rfl⟩)
        · left; rw [Array.getElem?_setIfInBounds_ne (Ne.symm hj), Array.getElem?_setIfInBounds_ne (Ne.symm e')]
    | val old =>
      by_cases hc : old.category = 2
      · have f2 := hW.2 i old ho hc
        have hi1 : i + 1 < L.size := (Array.getElem?_eq_some_iff.mp f2).1
        refine ⟨(L.setIfInBounds (i + 1) .unset).setIfInBounds i (.val v), ?_, by simp, ?_, by simp [hi], fun j hj => ?_⟩
        · rw [sl_val ho, if_pos hc, setAt_eq hi1]; exact ss_one (by simpa using hi) hv2
        · refine ⟨fun j hj => ?_, fun j w hj hw => ?_⟩
          · by_cases e : j = i
            · subst e; simp [hi] at hj
            · rw [Array.getElem?_setIfInBounds_ne (Ne.symm e)] at hj
              by_cases e' : j = i + 1
              · subst e'; simp [hi1] at hj
              · rw [Array.getElem?_setIfInBounds_ne (Ne.symm e')] at hj
                obtain ⟨j', w, e1, e2, e3⟩ := hW.1 j hj
                refine ⟨j', w, e1, ?_, e3⟩
                rw [Array.getElem?_setIfInBounds_ne, Array.getElem?_setIfInBounds_ne]
                · exact e2
                · intro q; subst q; rw [f2] at e2; cases e2
                · omega
          · by_cases e : j = i
            · subst e; simp [hi] at hj; subst hj; omega
            · rw [Array.getElem?_setIfInBounds_ne (Ne.symm e)] at hj
              by_cases e' : j = i + 1
              · subst e'; simp [hi1] at hj
              · rw [Array.getElem?_setIfInBounds_ne (Ne.symm e')] at hj
                have := hW.2 j w hj hw
                rw [Array.getElem?_setIfInBounds_ne, Array.getElem?_setIfInBounds_ne]
                · exact this
                · omega
                · intro q; subst q; rw [ho] at this; cases this
        · by_cases e' : j = i + 1
          · subst e'; exact Or.inr (Or.inr ⟨rfl, f2⟩)
          · left; rw [Array.getElem?_setIfInBounds_ne (Ne.symm hj), Array.getElem?_setIfInBounds_ne (Ne.symm e')]
      · refine ⟨L.setIfInBounds i (.val v), ?_, by simp, ?_, by simp [hi], fun j hj => Or.inl (Array.getElem?_setIfInBounds_ne (Ne.symm hj))⟩
        · rw [sl_val ho, if_neg hc, ss_one hi hv2]
        · refine ⟨fun j hj => ?_, fun j w hj hw => ?_⟩
          · by_cases e : j = i
            · subst e; simp [hi] at hj
            · rw [Array.getElem?_setIfInBounds_ne (Ne.symm e)] at hj
              obtain ⟨j', w, e1, e2, e3⟩ := hW.1 j hj
              refine ⟨j', w, e1, ?_, e3⟩
              rw [Array.getElem?_setIfInBounds_ne]; exact e2
              intro q; subst q; rw [ho] at e2; cases e2; omega
          · by_cases e : j = i
            · subst e; simp [hi] at hj; subst hj; omega
            · rw [Array.getElem?_setIfInBounds_ne (Ne.symm e)] at hj
              have := hW.2 j w hj hw
              rw [Array.getElem?_setIfInBounds_ne]; exact this
              intro q; subst q; rw [ho] at this; cases this
theorem Fits.store1 {P : Pat} {L : Array Slot} {i : Nat} {v : Value} (h : Fits P L) (hi : i < L.size) (hv : v.category = 1) :
    ∃ L', storeLocals L i v = some L' ∧ L'.size = L.size ∧ Fits (ps1 P i v) L' := by
  obtain ⟨L', e1, e2, e3, e4, e5⟩ := store_one h.2 hi hv
  refine ⟨L', e1, e2, fun j s hj => ?_, e3⟩
  rcases pget_pput _ _ _ _ _ hj with ⟨rfl, q⟩ | ⟨ne, q⟩
  · rw [e4]; exact q
  · obtain ⟨q1, q2⟩ := pk2_sub q
    obtain ⟨q3, q4⟩ := pkp_sub q1
    have hL := h.1 j s q3
    rcases e5 j ne with r | ⟨r1, r2⟩ | ⟨r1, r2⟩
    · rw [r]; exact hL
    · obtain ⟨j', w, z1, z2, z3⟩ := h.2.1 i r2
      have : j' = j := by omega
      subst this
      rw [hL] at z2; cases z2
      have := q4 r1 w rfl; omega
    · rw [hL] at r2; cases r2
      exact absurd rfl (q2 r1)
theorem st_ph1 {L : Array Slot} {i : Nat} {v : Value} (hW : WFl L) (hi : i + 1 < L.size) :
    ∃ A : Array Slot, storeLocals L i v = storeSelf A i v ∧ A.size = L.size ∧ (∀ j, j ≠ i → j ≠ i + 1 → A[j]? = L[j]? ∨ (j + 1 = i ∧ L[i]? = some .second ∧ A[j]? = some .unset)) ∧ (A[i + 1]? = L[i + 1]? ∨ (A[i + 1]? = some .unset ∧ L[i + 1]? = some .second)) ∧ (L[i]? = some .second → ∀ j, j + 1 = i → A[j]? = some .unset) := by
  have hi0 : i < L.size := by omega
  cases ho : L[i]? with
  | none => rw [Array.getElem?_eq_none_iff] at ho; omega
  | some o =>
    cases o with
    | unset => exact ⟨L, sl_unset ho, rfl, fun j _ _ => Or.inl rfl, Or.inl rfl, fun q => by cases q⟩
    | second =>
      obtain ⟨j0, w0, rfl, f2, f3⟩ := hW.1 i ho
      have hj0 : j0 < L.size := by omega
      refine ⟨L.setIfInBounds j0 .unset, by rw [sl_second ho, show j0 + 1 - 1 = j0 from rfl, setAt_eq hj0]; rfl, by simp, fun j h1 h2 => ?_, Or.inl (Array.getElem?_setIfInBounds_ne (by omega)), fun _ j hj => ?_⟩
      · by_cases e : j = j0
        · subst e; exact Or.inr ⟨rfl, rfl, by simp [hj0]⟩
        · exact Or.inl (Array.getElem?_setIfInBounds_ne (Ne.symm e))
      · have : j = j0 := by omega
        subst this; simp [hj0]
    | val old =>
      by_cases hc : old.category = 2
      · refine ⟨L.setIfInBounds (i + 1) .unset, by rw [sl_val ho, if_pos hc, setAt_eq hi]; rfl, by simp, fun j h1 h2 => Or.inl (Array.getElem?_setIfInBounds_ne (Ne.symm h2)), Or.inr ⟨by simp [hi], hW.2 i old ho hc⟩, fun q => by cases q⟩
      · exact ⟨L, by rw [sl_val ho, if_neg hc], rfl, fun j _ _ => Or.inl rfl, Or.inl rfl, fun q => by cases q⟩
theorem st_ph2 {A : Array Slot} {i : Nat} {v : Value} (hi : i + 1 < A.size) (hv : v.category = 2) (hn : ∀ w : Value, A[i + 1]? = some (.val w) → w.category = 2 → i + 2 < A.size) :
    ∃ L', storeSelf A i v = some L' ∧ L'.size = A.size ∧ L'[i]? = some (.val v) ∧ L'[i + 1]? = some .second ∧ (∀ j, j ≠ i → j ≠ i + 1 → L'[j]? = A[j]? ∨ (j = i + 2 ∧ L'[j]? = some .unset ∧ ∃ w : Value, A[i + 1]? = some (.val w) ∧ w.category = 2)) ∧ ((∃ w : Value, A[i + 1]? = some (.val w) ∧ w.category = 2) → L'[i + 2]? = some .unset) := by
  have hi0 : i < A.size := by omega
  have eB : (A.setIfInBounds i (.val v))[i + 1]? = A[i + 1]? := Array.getElem?_setIfInBounds_ne (by omega)
  have plain : (∀ w : Value, A[i + 1]? = some (.val w) → w.category ≠ 2) → storeSelf A i v = some ((A.setIfInBounds i (.val v)).setIfInBounds (i + 1) .second) := fun hq => by
    cases ho : A[i + 1]? with
    | none => rw [Array.getElem?_eq_none_iff] at ho; omega
    | some o => cases o with
      | unset => rw [ss_two hi0 hv ho]; exact setAt_eq (by simpa using hi)
      | second => rw [ss_two hi0 hv ho]; exact setAt_eq (by simpa using hi)
      | val w => have := hq w ho; rw [ss_two hi0 hv ho]; simp only [if_neg this]; exact setAt_eq (by simpa using hi)
  by_cases hw : ∃ w : Value, A[i + 1]? = some (.val w) ∧ w.category = 2
  · obtain ⟨w, h1, h2⟩ := hw
    have h3 := hn w h1 h2
    refine ⟨((A.setIfInBounds i (.val v)).setIfInBounds (i + 2) .unset).setIfInBounds (i + 1) .second, by rw [ss_two hi0 hv h1]; simp only [if_pos h2]; rw [setAt_eq (by simpa using h3)]; exact setAt_eq (by simpa using hi), by simp, ?_, by simp [hi], fun j a b => ?_, fun _ => ?_⟩
    · rw [Array.getElem?_setIfInBounds_ne (by omega), Array.getElem?_setIfInBounds_ne (by omega)]; simp [hi0]
    · rw [Array.getElem?_setIfInBounds_ne (by omega)]
      by_cases e : j = i + 2
      · subst e; exact Or.inr ⟨rfl, by simp [h3], w, h1, h2⟩
      · left; rw [Array.getElem?_setIfInBounds_ne (by omega), Array.getElem?_setIfInBounds_ne (by omega)]
    · rw [Array.getElem?_setIfInBounds_ne (by omega)]; simp [h3]
  · refine ⟨_, plain fun w h1 h2 => hw ⟨w, h1, h2⟩, by simp, ?_, by simp [hi], fun j a b => Or.inl ?_, fun q => absurd q hw⟩
    · rw [Array.getElem?_setIfInBounds_ne (by omega)]; simp [hi0]
    · rw [Array.getElem?_setIfInBounds_ne (by omega), Array.getElem?_setIfInBounds_ne (by omega)]
theorem store_two {L : Array Slot} {i : Nat} {v : Value} (hW : WFl L) (hi : i + 1 < L.size) (hv : v.category = 2) :
    ∃ L', storeLocals L i v = some L' ∧ L'.size = L.size ∧ WFl L' ∧ L'[i]? = some (.val v) ∧ L'[i + 1]? = some .second ∧ ∀ j, j ≠ i → j ≠ i + 1 → L'[j]? = L[j]? ∨ (j + 1 = i ∧ L[i]? = some .second) ∨ (j = i + 2 ∧ L[j]? = some .second) := by
  obtain ⟨A, a1, a2, a3, a4, a5⟩ := st_ph1 (v := v) hW hi
  have a6 : ∀ w : Value, A[i + 1]? = some (.val w) → w.category = 2 → L[i + 2]? = some .second := fun w h1 h2 => by
    rcases a4 with e | ⟨e, -⟩
    · rw [e] at h1; exact hW.2 _ _ h1 h2
    · rw [e] at h1; cases h1
  obtain ⟨L', b1, b2, b3, b4, b5, b6⟩ := st_ph2 (A := A) (i := i) (v := v) (by omega) hv (fun w h1 h2 => by have := (Array.getElem?_eq_some_iff.mp (a6 w h1 h2)).1; omega)
  have c : ∀ j, j ≠ i → j ≠ i + 1 → L'[j]? = L[j]? ∨ (j + 1 = i ∧ L[i]? = some .second ∧ L'[j]? = some .unset) ∨ (j = i + 2 ∧ L[j]? = some .second ∧ L'[j]? = some .unset) := fun j h1 h2 => by
    rcases b5 j h1 h2 with e | ⟨e1, e2, w, e3, e4⟩
    · rcases a3 j h1 h2 with r | ⟨r1, r2, r3⟩
      · exact Or.inl (e.trans r)
      · exact Or.inr (Or.inl ⟨r1, r2, e.trans r3⟩)
    · subst e1; exact Or.inr (Or.inr ⟨rfl, a6 w e3 e4, e2⟩)
  have cs : L[i]? = some .second → ∀ j, j + 1 = i → L'[j]? = some .unset := fun q j hj => by
    rcases b5 j (by omega) (by omega) with e | ⟨e1, -⟩
    · exact e.trans (a5 q j hj)
    · omega
  have c2 : L[i + 2]? = some .second → L'[i + 2]? = some .unset := fun q => by
    obtain ⟨j', w, z1, z2, z3⟩ := hW.1 _ q
    have : j' = i + 1 := by omega
    subst this
    rcases a4 with e | ⟨-, e⟩
    · exact b6 ⟨w, e.trans z2, z3⟩
    · rw [e] at z2; cases z2
  refine ⟨L', a1.trans b1, b2.trans a2, ⟨fun j hj => ?_, fun j w hj hw => ?_⟩, b3, b4, fun j h1 h2 => ?_⟩
  · by_cases e0 : j = i
    · subst e0; rw [b3] at hj; cases hj
    by_cases e1 : j = i + 1
    · exact ⟨i, v, e1, b3, hv⟩
    rcases c j e0 e1 with r | ⟨-, -, r⟩ | ⟨-, -, r⟩
    · rw [r] at hj
      obtain ⟨j', w, z1, z2, z3⟩ := hW.1 j hj
      refine ⟨j', w, z1, ?_, z3⟩
      have n0 : j' ≠ i := by omega
      by_cases n1 : j' = i + 1
      · have : j = i + 2 := by omega
        subst this
        rw [c2 hj] at r; rw [hj] at r; cases r
      rcases c j' n0 n1 with u | ⟨u, -, -⟩ | ⟨-, u, -⟩
      · exact u.trans z2
      · omega
      · rw [z2] at u; cases u
    · rw [r] at hj; cases hj
    · rw [r] at hj; cases hj
  · by_cases e0 : j = i
    · subst e0; exact b4
    by_cases e1 : j = i + 1
    · subst e1; rw [b4] at hj; cases hj
    rcases c j e0 e1 with r | ⟨-, -, r⟩ | ⟨-, -, r⟩
    · have hj' := hj
      rw [r] at hj
      have z := hW.2 j w hj hw
      by_cases n0 : j + 1 = i
      · subst n0; rw [cs z j rfl] at hj'; cases hj'
      by_cases n1 : j + 1 = i + 1
      · omega
      rcases c (j + 1) n0 n1 with u | ⟨u1, u2, -⟩ | ⟨u, -, -⟩
      · exact u.trans z
      · obtain ⟨j', w', y1, y2, y3⟩ := hW.1 i u2
        have : j' = j + 1 := by omega
        subst this; rw [z] at y2; cases y2
      · omega
    · rw [r] at hj; cases hj
    · rw [r] at hj; cases hj
  · rcases c j h1 h2 with r | ⟨r1, r2, -⟩ | ⟨r1, r2, -⟩
    · exact Or.inl r
    · exact Or.inr (Or.inl ⟨r1, r2⟩)
    · exact Or.inr (Or.inr ⟨r1, r2⟩)
theorem Fits.store2 {P : Pat} {L : Array Slot} {i : Nat} {v : Value} (h : Fits P L) (hi : i + 1 < L.size) (hv : v.category = 2) :
    ∃ L', storeLocals L i v = some L' ∧ L'.size = L.size ∧ Fits (ps2 P i v) L' := by
  obtain ⟨L', e1, e2, e3, e4, e4', e5⟩ := store_two h.2 hi hv
  refine ⟨L', e1, e2, fun j s hj => ?_, e3⟩
  rcases pget_pput _ _ _ _ _ hj with ⟨rfl, q⟩ | ⟨ne, q⟩
  · rw [e4']; exact q
  rcases pget_pput _ _ _ _ _ q with ⟨rfl, q'⟩ | ⟨ne', q'⟩
  · rw [e4]; exact q'
  obtain ⟨q1, q2⟩ := pk2_sub q'
  obtain ⟨q3, q4⟩ := pkp_sub q1
  have hL := h.1 j s q3
  rcases e5 j ne' ne with r | ⟨r1, r2⟩ | ⟨r1, r2⟩
  · rw [r]; exact hL
  · obtain ⟨j', w, z1, z2, z3⟩ := h.2.1 i r2
    have : j' = j := by omega
    subst this
    rw [hL] at z2; cases z2
    have := q4 r1 w rfl; omega
  · rw [hL] at r2; cases r2
    exact absurd rfl (q2 r1)
/- what a body does from a place on -/
def Runs (C : Ctx) (M : Bdy) (k n pc : Nat) (P : Pat) (S : List Value) (G : AH) (Q : Option Value → AH → Prop) : Prop :=
  Ok C → ∀ (p : Program) (e : Env) (s : State) (m : MethodId) (args : Array Value) (below : List Frame) (meth : Method) (c : Code) (T : State) (locs : List Loc) (L : Array Slot),
    p.tables.exec = Jvm.exec → c.code = M.2.1 → c.maxLocals = M.2.2.1 → meth.sig.returnType = M.2.2.2.1 → meth.name = M.1.name → s.vm.findClass M.1.cls = some m.cls → C.2.1.Warmed39 s.vm →
    Fits P L → L.size = M.2.2.1 → Stand p C.1 e M.2.2.2.2 s m args below meth c T locs k n → Rep C.2.1 C.2.2.1 T.heap G → Fr C.2.2.1 locs →
    ∃ (T' : State) (locs' : List Loc) (k' n' : Nat) (r : Option Value) (G' : AH), Stand p C.1 e M.2.2.2.2 s m args below meth c T' locs' k' n' ∧ k' ≤ M.2.2.2.2.cells ∧ n' ≤ M.2.2.2.2.slots ∧ Rep C.2.1 C.2.2.1 T'.heap G' ∧ Fr C.2.2.1 locs' ∧ Q r G' ∧
      (M.2.2.2.1 = none → r = none) ∧
      ∀ fs : List Frame, (∀ (f : JFrame) (acts : List Action), f.method = m → f.locked = none → f.entered = [] → (doReturn e (T'.setTop f) acts r).1 = T'.setFrames fs) → Steps p.tables e below (T.setTop (mkF m pc L S)) (T'.setFrames fs)
section Rules
variable {C : Ctx} {M : Bdy} {k n pc q : Nat} {P P' : Pat} {S S' : List Value} {G : AH} {Q : Option Value → AH → Prop}
/-- a step that leaves the heap alone -/
theorem Runs.pure {i : Instr} {len : Nat} (d : DAt M pc i len q) {pc' : Nat}
    (st : ∀ (p : Program) (e : Env) (s : State) (m : MethodId) (args : Array Value) (below : List Frame) (meth : Method) (c : Code) (T : State) (locs : List Loc) (L : Array Slot), Ok C → p.tables.exec = Jvm.exec → s.vm.findClass M.1.cls = some m.cls → C.2.1.Warmed39 s.vm → decode c.code pc = .ok (i, len) → Fits P L → L.size = M.2.2.1 → Rep C.2.1 C.2.2.1 T.heap G →
      Stand p C.1 e M.2.2.2.2 s m args below meth c T locs k n → ∃ L', Fits P' L' ∧ L'.size = M.2.2.1 ∧ ∀ t, Steps p.tables e below (T.setTop (mkF m pc' L' S')) t → Steps p.tables e below (T.setTop (mkF m pc L S)) t)
    (h : Runs C M k n pc' P' S' G Q) : Runs C M k n pc P S G Q := by
  intro hw p e s m args below meth c T locs L hx hby hml hret hnm hown hZ hP hsz X hR hF
  obtain ⟨L', f1, f2, f3⟩ := st p e s m args below meth c T locs L hw hx hown hZ (hb hby d.1) hP hsz hR X
  obtain ⟨T', locs', k', n', r, G', g1, g2, g3, g4, g5, g6, g7, g8⟩ := h hw p e s m args below meth c T locs L' hx hby hml hret hnm hown hZ f1 f2 X hR hF
  exact ⟨T', locs', k', n', r, G', g1, g2, g3, g4, g5, g6, g7, fun fs hr => f3 _ (g8 fs hr)⟩
/-- a step that keeps the locals and what the heap says -/
theorem Runs.stk {i : Instr} {len : Nat} (d : DAt M pc i len q)
    (st : ∀ (p : Program) (e : Env) (s : State) (m : MethodId) (args : Array Value) (below : List Frame) (meth : Method) (c : Code) (T : State) (locs : List Loc) (L : Array Slot), p.tables.exec = Jvm.exec → decode c.code pc = .ok (i, len) → Fits P L →
      Stand p C.1 e M.2.2.2.2 s m args below meth c T locs k n → ∀ t, Steps p.tables e below (T.setTop (mkF m (pc + len) L S')) t → Steps p.tables e below (T.setTop (mkF m pc L S)) t)
    (h : Runs C M k n q P S' G Q) : Runs C M k n pc P S G Q := by
  have hq := d.2
  subst hq
  exact Runs.pure d (fun p e s m args below meth c T locs L _ hx _ _ hd hP hsz _ X => ⟨L, hP, hsz, st p e s m args below meth c T locs L hx hd hP X⟩) h
theorem Runs.iloadN {j : Fin 4} {v : Int32} (d : DAt M pc (.iload_n j) 1 q) (hl : pget P j.val = vi v) (h : Runs C M k n q P (.int v :: S) G Q) : Runs C M k n pc P S G Q :=
  Runs.stk d (fun p e s m args below meth c T locs L hx hd hP X t r => XS.iloadN (g := mkF m pc L S) X.here hx rfl hd (hP.1 _ _ hl) r) h
theorem Runs.iload {j : Nat} {v : Int32} (d : DAt M pc (.iload j) 2 q) (hl : pget P j = vi v) (h : Runs C M k n q P (.int v :: S) G Q) : Runs C M k n pc P S G Q :=
  Runs.stk d (fun p e s m args below meth c T locs L hx hd hP X t r => XS.iload (g := mkF m pc L S) X.here hx rfl hd (hP.1 _ _ hl) r) h
theorem Runs.lloadN {j : Fin 4} {v : Int64} (d : DAt M pc (.lload_n j) 1 q) (hl : pget P j.val = vl v) (h : Runs C M k n q P (.long v :: S) G Q) : Runs C M k n pc P S G Q :=
  Runs.stk d (fun p e s m args below meth c T locs L hx hd hP X t r => XS.lloadN (g := mkF m pc L S) X.here hx rfl hd (hP.1 _ _ hl) r) h
theorem Runs.lload {j : Nat} {v : Int64} (d : DAt M pc (.lload j) 2 q) (hl : pget P j = vl v) (h : Runs C M k n q P (.long v :: S) G Q) : Runs C M k n pc P S G Q :=
  Runs.stk d (fun p e s m args below meth c T locs L hx hd hP X t r => XS.lload (g := mkF m pc L S) X.here hx rfl hd (hP.1 _ _ hl) r) h
theorem Runs.aloadN {j : Fin 4} {v : Nat} (d : DAt M pc (.aload_n j) 1 q) (hl : pget P j.val = vr v) (h : Runs C M k n q P (.ref v :: S) G Q) : Runs C M k n pc P S G Q :=
  Runs.stk d (fun p e s m args below meth c T locs L hx hd hP X t r => XS.aloadN (g := mkF m pc L S) X.here hx rfl hd (hP.1 _ _ hl) rfl r) h
theorem Runs.aload {j : Nat} {v : Nat} (d : DAt M pc (.aload j) 2 q) (hl : pget P j = vr v) (h : Runs C M k n q P (.ref v :: S) G Q) : Runs C M k n pc P S G Q :=
  Runs.stk d (fun p e s m args below meth c T locs L hx hd hP X t r => XS.aload (g := mkF m pc L S) X.here hx rfl hd (hP.1 _ _ hl) rfl r) h
theorem Runs.iconst {i : Int} {v : Int32} (d : DAt M pc (.iconst i) 1 q) (hv : Int32.ofInt i = v) (h : Runs C M k n q P (.int v :: S) G Q) : Runs C M k n pc P S G Q :=
  Runs.stk d (fun p e s m args below meth c T locs L hx hd hP X t r => XS.iconst (g := mkF m pc L S) X.here hx rfl hd (by rw [hv]; exact r)) h
theorem Runs.bipush {i : Int} {v : Int32} (d : DAt M pc (.bipush i) 2 q) (hv : (Int8.ofInt i).toInt32 = v) (h : Runs C M k n q P (.int v :: S) G Q) : Runs C M k n pc P S G Q :=
  Runs.stk d (fun p e s m args below meth c T locs L hx hd hP X t r => XS.bipush (g := mkF m pc L S) X.here hx rfl hd (by rw [hv]; exact r)) h
theorem Runs.sipush {i : Int} {v : Int32} (d : DAt M pc (.sipush i) 3 q) (hv : (Int16.ofInt i).toInt32 = v) (h : Runs C M k n q P (.int v :: S) G Q) : Runs C M k n pc P S G Q :=
  Runs.stk d (fun p e s m args below meth c T locs L hx hd hP X t r => XS.sipush (g := mkF m pc L S) X.here hx rfl hd (by rw [hv]; exact r)) h
theorem Runs.lconst {i : Fin 2} {v : Int64} (d : DAt M pc (.lconst i) 1 q) (hv : Int64.ofNat i = v) (h : Runs C M k n q P (.long v :: S) G Q) : Runs C M k n pc P S G Q :=
  Runs.stk d (fun p e s m args below meth c T locs L hx hd hP X t r => Jvm.Free.XT.lconstV (g := mkF m pc L S) X.here hx rfl v hd hv r) h
theorem Runs.ldc {i : Nat} {v : Int32} (d : DAt M pc (.ldc i) 2 q) (w : Jvm.Cond.constant M.1.cls i v ∈ tables_1) (h : Runs C M k n q P (.int v :: S) G Q) : Runs C M k n pc P S G Q := by
  have hq := d.2
  subst hq
  exact Runs.pure d (fun p e s m args below meth c T locs L hw hx hown hZ hd hP hsz _ X => ⟨L, hP, hsz, fun t r => X.ldcInt hx hown (mvT hZ (hw _ w)) (g := mkF m pc L S) rfl hd t r⟩) h
theorem Runs.ldc2 {i : Nat} {v : Int64} (d : DAt M pc (.ldc2_w i) 3 q) (w : Jvm.Cond.constantLong M.1.cls i v ∈ tables_1) (h : Runs C M k n q P (.long v :: S) G Q) : Runs C M k n pc P S G Q := by
  have hq := d.2
  subst hq
  exact Runs.pure d (fun p e s m args below meth c T locs L hw hx hown hZ hd hP hsz _ X => ⟨L, hP, hsz, fun t r => X.ldc2Long hx hown (mvT hZ (hw _ w)) (g := mkF m pc L S) rfl hd t r⟩) h
theorem Runs.iadd {x y : Int32} (d : DAt M pc .iadd 1 q) (h : Runs C M k n q P (.int (x + y) :: S) G Q) : Runs C M k n pc P (.int y :: .int x :: S) G Q :=
  Runs.stk d (fun p e s m args below meth c T locs L hx hd hP X t r => XS.iadd (g := mkF m pc L (.int y :: .int x :: S)) X.here hx rfl hd rfl r) h
theorem Runs.isub {x y : Int32} (d : DAt M pc .isub 1 q) (h : Runs C M k n q P (.int (x - y) :: S) G Q) : Runs C M k n pc P (.int y :: .int x :: S) G Q :=
  Runs.stk d (fun p e s m args below meth c T locs L hx hd hP X t r => XS.isub (g := mkF m pc L (.int y :: .int x :: S)) X.here hx rfl hd rfl r) h
theorem Runs.imul {x y : Int32} (d : DAt M pc .imul 1 q) (h : Runs C M k n q P (.int (x * y) :: S) G Q) : Runs C M k n pc P (.int y :: .int x :: S) G Q :=
  Runs.stk d (fun p e s m args below meth c T locs L hx hd hP X t r => XS.imul (g := mkF m pc L (.int y :: .int x :: S)) X.here hx rfl hd rfl r) h
theorem Runs.iand {x y : Int32} (d : DAt M pc .iand 1 q) (h : Runs C M k n q P (.int (x &&& y) :: S) G Q) : Runs C M k n pc P (.int y :: .int x :: S) G Q :=
  Runs.stk d (fun p e s m args below meth c T locs L hx hd hP X t r => XS.iand (g := mkF m pc L (.int y :: .int x :: S)) X.here hx rfl hd rfl r) h
theorem Runs.ior {x y : Int32} (d : DAt M pc .ior 1 q) (h : Runs C M k n q P (.int (x ||| y) :: S) G Q) : Runs C M k n pc P (.int y :: .int x :: S) G Q :=
  Runs.stk d (fun p e s m args below meth c T locs L hx hd hP X t r => XS.ior (g := mkF m pc L (.int y :: .int x :: S)) X.here hx rfl hd rfl r) h
theorem Runs.ixor {x y : Int32} (d : DAt M pc .ixor 1 q) (h : Runs C M k n q P (.int (x ^^^ y) :: S) G Q) : Runs C M k n pc P (.int y :: .int x :: S) G Q :=
  Runs.stk d (fun p e s m args below meth c T locs L hx hd hP X t r => XS.ixor (g := mkF m pc L (.int y :: .int x :: S)) X.here hx rfl hd rfl r) h
theorem Runs.ladd {x y : Int64} (d : DAt M pc .ladd 1 q) (h : Runs C M k n q P (.long (x + y) :: S) G Q) : Runs C M k n pc P (.long y :: .long x :: S) G Q :=
  Runs.stk d (fun p e s m args below meth c T locs L hx hd hP X t r => XS.ladd (g := mkF m pc L (.long y :: .long x :: S)) X.here hx rfl hd rfl r) h
theorem Runs.lsub {x y : Int64} (d : DAt M pc .lsub 1 q) (h : Runs C M k n q P (.long (x - y) :: S) G Q) : Runs C M k n pc P (.long y :: .long x :: S) G Q :=
  Runs.stk d (fun p e s m args below meth c T locs L hx hd hP X t r => XS.lsub (g := mkF m pc L (.long y :: .long x :: S)) X.here hx rfl hd rfl r) h
theorem Runs.lmul {x y : Int64} (d : DAt M pc .lmul 1 q) (h : Runs C M k n q P (.long (x * y) :: S) G Q) : Runs C M k n pc P (.long y :: .long x :: S) G Q :=
  Runs.stk d (fun p e s m args below meth c T locs L hx hd hP X t r => XS.lmul (g := mkF m pc L (.long y :: .long x :: S)) X.here hx rfl hd rfl r) h
theorem Runs.land {x y : Int64} (d : DAt M pc .land 1 q) (h : Runs C M k n q P (.long (x &&& y) :: S) G Q) : Runs C M k n pc P (.long y :: .long x :: S) G Q :=
  Runs.stk d (fun p e s m args below meth c T locs L hx hd hP X t r => XS.land (g := mkF m pc L (.long y :: .long x :: S)) X.here hx rfl hd rfl r) h
theorem Runs.lor {x y : Int64} (d : DAt M pc .lor 1 q) (h : Runs C M k n q P (.long (x ||| y) :: S) G Q) : Runs C M k n pc P (.long y :: .long x :: S) G Q :=
  Runs.stk d (fun p e s m args below meth c T locs L hx hd hP X t r => XS.lor (g := mkF m pc L (.long y :: .long x :: S)) X.here hx rfl hd rfl r) h
theorem Runs.lxor {x y : Int64} (d : DAt M pc .lxor 1 q) (h : Runs C M k n q P (.long (x ^^^ y) :: S) G Q) : Runs C M k n pc P (.long y :: .long x :: S) G Q :=
  Runs.stk d (fun p e s m args below meth c T locs L hx hd hP X t r => XS.lxor (g := mkF m pc L (.long y :: .long x :: S)) X.here hx rfl hd rfl r) h
theorem Runs.ishl {x : Int32} {y : Int32} (d : DAt M pc .ishl 1 q) (h : Runs C M k n q P (.int (x <<< (y &&& 31)) :: S) G Q) : Runs C M k n pc P (.int y :: .int x :: S) G Q :=
  Runs.stk d (fun p e s m args below meth c T locs L hx hd hP X t r => XS.ishl (g := mkF m pc L (.int y :: .int x :: S)) X.here hx rfl hd rfl r) h
theorem Runs.ishr {x : Int32} {y : Int32} (d : DAt M pc .ishr 1 q) (h : Runs C M k n q P (.int (x >>> (y &&& 31)) :: S) G Q) : Runs C M k n pc P (.int y :: .int x :: S) G Q :=
  Runs.stk d (fun p e s m args below meth c T locs L hx hd hP X t r => XS.ishr (g := mkF m pc L (.int y :: .int x :: S)) X.here hx rfl hd rfl r) h
theorem Runs.iushr {x : Int32} {y : Int32} (d : DAt M pc .iushr 1 q) (h : Runs C M k n q P (.int ((x.toUInt32 >>> (y &&& 31).toUInt32).toInt32) :: S) G Q) : Runs C M k n pc P (.int y :: .int x :: S) G Q :=
  Runs.stk d (fun p e s m args below meth c T locs L hx hd hP X t r => XS.iushr (g := mkF m pc L (.int y :: .int x :: S)) X.here hx rfl hd rfl r) h
theorem Runs.lshl {x : Int64} {y : Int32} (d : DAt M pc .lshl 1 q) (h : Runs C M k n q P (.long (x <<< (y &&& 0x3f).toInt64) :: S) G Q) : Runs C M k n pc P (.int y :: .long x :: S) G Q :=
  Runs.stk d (fun p e s m args below meth c T locs L hx hd hP X t r => XS.lshl (g := mkF m pc L (.int y :: .long x :: S)) X.here hx rfl hd rfl r) h
theorem Runs.lshr {x : Int64} {y : Int32} (d : DAt M pc .lshr 1 q) (h : Runs C M k n q P (.long (x >>> (y &&& 0x3f).toInt64) :: S) G Q) : Runs C M k n pc P (.int y :: .long x :: S) G Q :=
  Runs.stk d (fun p e s m args below meth c T locs L hx hd hP X t r => XS.lshr (g := mkF m pc L (.int y :: .long x :: S)) X.here hx rfl hd rfl r) h
theorem Runs.lushr {x : Int64} {y : Int32} (d : DAt M pc .lushr 1 q) (h : Runs C M k n q P (.long ((x.toUInt64 >>> (y &&& 0x3f).toInt64.toUInt64).toInt64) :: S) G Q) : Runs C M k n pc P (.int y :: .long x :: S) G Q :=
  Runs.stk d (fun p e s m args below meth c T locs L hx hd hP X t r => XS.lushr (g := mkF m pc L (.int y :: .long x :: S)) X.here hx rfl hd rfl r) h
theorem Runs.ineg {x : Int32} (d : DAt M pc .ineg 1 q) (h : Runs C M k n q P (.int (-x) :: S) G Q) : Runs C M k n pc P (.int x :: S) G Q :=
  Runs.stk d (fun p e s m args below meth c T locs L hx hd hP X t r => XS.ineg (g := mkF m pc L (.int x :: S)) X.here hx rfl hd rfl r) h
theorem Runs.lneg {x : Int64} (d : DAt M pc .lneg 1 q) (h : Runs C M k n q P (.long (-x) :: S) G Q) : Runs C M k n pc P (.long x :: S) G Q :=
  Runs.stk d (fun p e s m args below meth c T locs L hx hd hP X t r => XS.lneg (g := mkF m pc L (.long x :: S)) X.here hx rfl hd rfl r) h
theorem Runs.i2l {x : Int32} (d : DAt M pc .i2l 1 q) (h : Runs C M k n q P (.long x.toInt64 :: S) G Q) : Runs C M k n pc P (.int x :: S) G Q :=
  Runs.stk d (fun p e s m args below meth c T locs L hx hd hP X t r => XS.i2l (g := mkF m pc L (.int x :: S)) X.here hx rfl hd rfl r) h
theorem Runs.l2i {x : Int64} (d : DAt M pc .l2i 1 q) (h : Runs C M k n q P (.int x.toInt32 :: S) G Q) : Runs C M k n pc P (.long x :: S) G Q :=
  Runs.stk d (fun p e s m args below meth c T locs L hx hd hP X t r => XS.l2i (g := mkF m pc L (.long x :: S)) X.here hx rfl hd rfl r) h
theorem Runs.lcmp {x y : Int64} (d : DAt M pc .lcmp 1 q) (h : Runs C M k n q P (.int (lcmpW x y) :: S) G Q) : Runs C M k n pc P (.long y :: .long x :: S) G Q :=
  Runs.stk d (fun p e s m args below meth c T locs L hx hd hP X t r => XS.lcmp (g := mkF m pc L (.long y :: .long x :: S)) X.here hx rfl hd rfl r) h
theorem Runs.idiv {x y : Int32} (d : DAt M pc .idiv 1 q) (hy : y ≠ 0) (h : Runs C M k n q P (.int (x / y) :: S) G Q) : Runs C M k n pc P (.int y :: .int x :: S) G Q :=
  Runs.stk d (fun p e s m args below meth c T locs L hx hd hP X t r => XS.idiv (g := mkF m pc L (.int y :: .int x :: S)) X.here hx rfl hd rfl hy r) h
theorem Runs.irem {x y : Int32} (d : DAt M pc .irem 1 q) (hy : y ≠ 0) (h : Runs C M k n q P (.int (x % y) :: S) G Q) : Runs C M k n pc P (.int y :: .int x :: S) G Q :=
  Runs.stk d (fun p e s m args below meth c T locs L hx hd hP X t r => iremM (g := mkF m pc L (.int y :: .int x :: S)) X hx rfl hd rfl hy r) h
theorem Runs.dup {x : Value} (d : DAt M pc .dup 1 q) (hc : x.category = 1) (h : Runs C M k n q P (x :: x :: S) G Q) : Runs C M k n pc P (x :: S) G Q :=
  Runs.stk d (fun p e s m args below meth c T locs L hx hd hP X t r => XS.dup (g := mkF m pc L (x :: S)) X.here hx rfl hd rfl hc r) h
theorem Runs.dup2 {x y : Value} (d : DAt M pc .dup2 1 q) (hc : x.category = 1) (hc' : y.category = 1) (h : Runs C M k n q P (x :: y :: x :: y :: S) G Q) : Runs C M k n pc P (x :: y :: S) G Q :=
  Runs.stk d (fun p e s m args below meth c T locs L hx hd hP X t r => Jvm.Free.XT.dup2 (g := mkF m pc L (x :: y :: S)) X.here hx rfl hd rfl hc hc' r) h
theorem Runs.pop {x : Value} (d : DAt M pc .pop 1 q) (hc : x.category = 1) (h : Runs C M k n q P S G Q) : Runs C M k n pc P (x :: S) G Q :=
  Runs.stk d (fun p e s m args below meth c T locs L hx hd hP X t r => XS.pop (g := mkF m pc L (x :: S)) X.here hx rfl hd rfl hc r) h
theorem Runs.goto {o : Int} {pc' : Nat} (d : DAt M pc (.goto o) 3 q) (ho : 0 ≤ (pc : Int) + o ∧ ((pc : Int) + o).toNat = pc') (h : Runs C M k n pc' P S G Q) : Runs C M k n pc P S G Q :=
  Runs.pure d (fun p e s m args below meth c T locs L hw hx hown hZ hd hP hsz _ X => ⟨L, hP, hsz, fun t r => XS.goto (g := mkF m pc L S) X.here hx rfl (pc0 := pc) rfl hd ho.1 ho.2 r⟩) h
theorem Runs.ifY {cd : ClassFile.Cond} {x : Int32} {o : Int} {pc' : Nat} (d : DAt M pc (.ifCond cd o) 3 q) (hc : if_icmp.holds cd x 0 = true) (ho : 0 ≤ (pc : Int) + o ∧ ((pc : Int) + o).toNat = pc') (h : Runs C M k n pc' P S G Q) : Runs C M k n pc P (.int x :: S) G Q :=
  Runs.pure d (fun p e s m args below meth c T locs L hw hx hown hZ hd hP hsz _ X => ⟨L, hP, hsz, fun t r => XS.ifYes (g := mkF m pc L (.int x :: S)) X.here hx rfl (pc0 := pc) rfl hd rfl ((if0 _ _).trans hc) ho.1 ho.2 r⟩) h
theorem Runs.ifN {cd : ClassFile.Cond} {x : Int32} {o : Int} (d : DAt M pc (.ifCond cd o) 3 q) (hc : if_icmp.holds cd x 0 = false) (h : Runs C M k n q P S G Q) : Runs C M k n pc P (.int x :: S) G Q :=
  Runs.stk d (fun p e s m args below meth c T locs L hx hd hP X t r => XS.ifNo (g := mkF m pc L (.int x :: S)) X.here hx rfl hd rfl ((if0 _ _).trans hc) r) h
theorem Runs.icY {cd : ClassFile.Cond} {x y : Int32} {o : Int} {pc' : Nat} (d : DAt M pc (.if_icmp cd o) 3 q) (hc : if_icmp.holds cd x y = true) (ho : 0 ≤ (pc : Int) + o ∧ ((pc : Int) + o).toNat = pc') (h : Runs C M k n pc' P S G Q) : Runs C M k n pc P (.int y :: .int x :: S) G Q :=
  Runs.pure d (fun p e s m args below meth c T locs L hw hx hown hZ hd hP hsz _ X => ⟨L, hP, hsz, fun t r => XS.icmpYes (g := mkF m pc L (.int y :: .int x :: S)) X.here hx rfl (pc0 := pc) rfl hd rfl hc ho.1 ho.2 r⟩) h
theorem Runs.icN {cd : ClassFile.Cond} {x y : Int32} {o : Int} (d : DAt M pc (.if_icmp cd o) 3 q) (hc : if_icmp.holds cd x y = false) (h : Runs C M k n q P S G Q) : Runs C M k n pc P (.int y :: .int x :: S) G Q :=
  Runs.stk d (fun p e s m args below meth c T locs L hx hd hP X t r => XS.icmpNo (g := mkF m pc L (.int y :: .int x :: S)) X.here hx rfl hd rfl hc r) h
theorem Runs.tswI {dflt low high : Int} {offs : Array Int} {len : Nat} {o : Int} {pc' : Nat} {i : Int32} (d : DAt M pc (.tableswitch dflt low high offs) len q) (hin : ¬ (i.toInt < low ∨ i.toInt > high)) (hoff : offs[(i.toInt - low).toNat]? = some o) (ho : 0 ≤ (pc : Int) + o ∧ ((pc : Int) + o).toNat = pc') (h : Runs C M k n pc' P S G Q) : Runs C M k n pc P (.int i :: S) G Q :=
  Runs.pure d (fun p e s m args below meth c T locs L hw hx hown hZ hd hP hsz _ X => ⟨L, hP, hsz, fun t r => XS.tswIn (g := mkF m pc L (.int i :: S)) X.here hx rfl (pc0 := pc) rfl hd rfl hin hoff ho.1 ho.2 r⟩) h
theorem Runs.tswO {dflt low high : Int} {offs : Array Int} {len : Nat} {pc' : Nat} {i : Int32} (d : DAt M pc (.tableswitch dflt low high offs) len q) (hout : i.toInt < low ∨ i.toInt > high) (ho : 0 ≤ (pc : Int) + dflt ∧ ((pc : Int) + dflt).toNat = pc') (h : Runs C M k n pc' P S G Q) : Runs C M k n pc P (.int i :: S) G Q :=
  Runs.pure d (fun p e s m args below meth c T locs L hw hx hown hZ hd hP hsz _ X => ⟨L, hP, hsz, fun t r => XS.tswOut (g := mkF m pc L (.int i :: S)) X.here hx rfl (pc0 := pc) rfl hd rfl hout ho.1 ho.2 r⟩) h
theorem Runs.istoreN {j : Fin 4} {x : Int32} (d : DAt M pc (.istore_n j) 1 q) (hi : j.val < M.2.2.1) (hP' : ps1 P j.val (.int x) = P') (h : Runs C M k n q P' S G Q) : Runs C M k n pc P (.int x :: S) G Q := by
  have hq := d.2
  subst hq hP'
  refine Runs.pure d (fun p e s m args below meth c T locs L hw hx hown hZ hd hP hsz _ X => ?_) h
  obtain ⟨L', e1, e2, e3⟩ := hP.store1 (i := j.val) (v := .int x) (by omega) rfl
  exact ⟨L', e3, e2.trans hsz, fun t r => XS.istoreN (g := mkF m pc L (.int x :: S)) X.here hx rfl hd rfl e1 r⟩
theorem Runs.istore {j : Nat} {x : Int32} (d : DAt M pc (.istore j) 2 q) (hi : j < M.2.2.1) (hP' : ps1 P j (.int x) = P') (h : Runs C M k n q P' S G Q) : Runs C M k n pc P (.int x :: S) G Q := by
  have hq := d.2
  subst hq hP'
  refine Runs.pure d (fun p e s m args below meth c T locs L hw hx hown hZ hd hP hsz _ X => ?_) h
  obtain ⟨L', e1, e2, e3⟩ := hP.store1 (i := j) (v := .int x) (by omega) rfl
  exact ⟨L', e3, e2.trans hsz, fun t r => XS.istore (g := mkF m pc L (.int x :: S)) X.here hx rfl hd rfl e1 r⟩
theorem Runs.astoreN {j : Fin 4} {x : Nat} (d : DAt M pc (.astore_n j) 1 q) (hi : j.val < M.2.2.1) (hP' : ps1 P j.val (.ref x) = P') (h : Runs C M k n q P' S G Q) : Runs C M k n pc P (.ref x :: S) G Q := by
  have hq := d.2
  subst hq hP'
  refine Runs.pure d (fun p e s m args below meth c T locs L hw hx hown hZ hd hP hsz _ X => ?_) h
  obtain ⟨L', e1, e2, e3⟩ := hP.store1 (i := j.val) (v := .ref x) (by omega) rfl
  exact ⟨L', e3, e2.trans hsz, fun t r => XS.astoreN (g := mkF m pc L (.ref x :: S)) X.here hx rfl hd rfl rfl e1 r⟩
theorem Runs.astore {j : Nat} {x : Nat} (d : DAt M pc (.astore j) 2 q) (hi : j < M.2.2.1) (hP' : ps1 P j (.ref x) = P') (h : Runs C M k n q P' S G Q) : Runs C M k n pc P (.ref x :: S) G Q := by
  have hq := d.2
  subst hq hP'
  refine Runs.pure d (fun p e s m args below meth c T locs L hw hx hown hZ hd hP hsz _ X => ?_) h
  obtain ⟨L', e1, e2, e3⟩ := hP.store1 (i := j) (v := .ref x) (by omega) rfl
  exact ⟨L', e3, e2.trans hsz, fun t r => XS.astore (g := mkF m pc L (.ref x :: S)) X.here hx rfl hd rfl rfl e1 r⟩
theorem Runs.lstoreN {j : Fin 4} {x : Int64} (d : DAt M pc (.lstore_n j) 1 q) (hi : j.val + 1 < M.2.2.1) (hP' : ps2 P j.val (.long x) = P') (h : Runs C M k n q P' S G Q) : Runs C M k n pc P (.long x :: S) G Q := by
  have hq := d.2
  subst hq hP'
  refine Runs.pure d (fun p e s m args below meth c T locs L hw hx hown hZ hd hP hsz _ X => ?_) h
  obtain ⟨L', e1, e2, e3⟩ := hP.store2 (i := j.val) (v := .long x) (by omega) rfl
  exact ⟨L', e3, e2.trans hsz, fun t r => XS.lstoreN (g := mkF m pc L (.long x :: S)) X.here hx rfl hd rfl e1 r⟩
theorem Runs.lstore {j : Nat} {x : Int64} (d : DAt M pc (.lstore j) 2 q) (hi : j + 1 < M.2.2.1) (hP' : ps2 P j (.long x) = P') (h : Runs C M k n q P' S G Q) : Runs C M k n pc P (.long x :: S) G Q := by
  have hq := d.2
  subst hq hP'
  refine Runs.pure d (fun p e s m args below meth c T locs L hw hx hown hZ hd hP hsz _ X => ?_) h
  obtain ⟨L', e1, e2, e3⟩ := hP.store2 (i := j) (v := .long x) (by omega) rfl
  exact ⟨L', e3, e2.trans hsz, fun t r => XS.lstore (g := mkF m pc L (.long x :: S)) X.here hx rfl hd rfl e1 r⟩
theorem Runs.iinc {j : Nat} {cst : Int} {x v : Int32} (d : DAt M pc (.iinc j cst) 3 q) (hv : Int32.ofInt cst = v) (hl : pget P j = vi x) (hi : j < M.2.2.1) (hP' : ps1 P j (.int (x + v)) = P') (h : Runs C M k n q P' S G Q) : Runs C M k n pc P S G Q := by
  have hq := d.2
  subst hq hP' hv
  refine Runs.pure d (fun p e s m args below meth c T locs L hw hx hown hZ hd hP hsz _ X => ?_) h
  obtain ⟨L', e1, e2, e3⟩ := hP.store1 (i := j) (v := .int (x + Int32.ofInt cst)) (by omega) rfl
  exact ⟨L', e3, e2.trans hsz, fun t r => XS.iinc (g := mkF m pc L S) X.here hx rfl hd (hP.1 _ _ hl) e1 r⟩
/-- less is known of the locals -/
def psub : Pat → Pat → Prop
  | [], _ => True
  | none :: l, _ :: l' => psub l l'
  | some s :: l, y :: l' => y = some s ∧ psub l l'
  | none :: l, [] => psub l []
  | some _ :: _, [] => False
theorem psub_get : ∀ (P P' : Pat), psub P P' → ∀ i s, pget P i = some s → pget P' i = some s
  | [], _, _, i, s, h => by simp [pget] at h
  | none :: l, _ :: l', H, 0, s, h => by simp [pget] at h
  | none :: l, _ :: l', H, i + 1, s, h => psub_get l l' H i s h
  | some x :: l, y :: l', H, 0, s, h => by rw [show y = some x from H.1]; exact h
  | some x :: l, y :: l', H, i + 1, s, h => psub_get l l' H.2 i s h
  | none :: l, [], H, 0, s, h => by simp [pget] at h
  | none :: l, [], H, i + 1, s, h => by have := psub_get l [] H i s h; simp [pget] at this
  | some _ :: _, [], H, _, _, _ => H.elim
theorem Runs.weak (hP : psub P' P) (h : Runs C M k n pc P' S G Q) : Runs C M k n pc P S G Q := by
  intro hw p e s m args below meth c T locs L hx hby hml hret hnm hown hZ hf
  exact h hw p e s m args below meth c T locs L hx hby hml hret hnm hown hZ ⟨fun i s hi => hf.1 i s (psub_get _ _ hP i s hi), hf.2⟩
theorem Runs.swap {top : Nat} {x y : Nat × Nat × Rec} {H : List (Nat × Nat × Rec)} (h : Runs C M k n pc P S (top, y :: x :: H) Q) : Runs C M k n pc P S (top, x :: y :: H) Q := by
  intro hw p e s m args below meth c T locs L hx hby hml hret hnm hown hZ hf hsz X hR hF
  exact h hw p e s m args below meth c T locs L hx hby hml hret hnm hown hZ hf hsz X hR.swap hF
end Rules
/- the steps that touch the heap -/
section Made
variable {p : Program} {l : Launch} {e : Env} {R : Room} {s : State} {m : MethodId} {args : Array Value} {below : List Frame} {meth : Method} {c : Code} {T : State} {locs : List Loc} {cells slots : Nat} {Z : State} {a0 : Array Value}
theorem ext_push (h : Heap) (x : Cell) : Ext h (h.push x) := ⟨by simp, fun a c q => by rw [Array.getElem?_push_lt (Array.getElem?_eq_some_iff.mp q).1]; exact (Array.getElem?_eq_getElem _).symm.trans q⟩
/-- 'new', with the heap's size behind it -/
theorem new1 (X : Stand p l e R s m args below meth c T locs cells slots) (hx : p.tables.exec = Jvm.exec) (hZ : Z.Warmed39 s.vm) {own C : String} {index n : Nat} (hown : s.vm.findClass own = some m.cls) (w : (Jvm.Cond.classLink own index C).before a0 Z = true) (wi : (Jvm.Cond.instantiable C n).before a0 Z = true) (wz : (Jvm.Cond.initialized C).before a0 Z = true)
    {g : JFrame} (hg : g.method = m) (hd : decode c.code g.pc = .ok (.new index, 3)) (hc : cells + 1 ≤ R.cells) (hl : slots + n ≤ R.slots) :
    ∃ T', Stand p l e R s m args below meth c T' locs (cells + 1) (slots + n) ∧ T'.heap.size = T.heap.size + 1 ∧ Ext T.heap T'.heap ∧ Exa Z T'.heap T.heap.size C ∧ (∀ {O nm d : String} {ty : FieldType}, Laid Z a0 C O nm d → parseFieldDescriptor d = some ty → Fld Z T'.heap T.heap.size O nm d (defaultValue ty)) ∧
      ∀ target, Steps p.tables e below (T'.setTop { g with pc := g.pc + 3, stack := .ref T.heap.size :: g.stack }) target → Steps p.tables e below (T.setTop g) target := by
  obtain ⟨vm', cC, kC, h1, h2, h3, h4, X', st⟩ := X.newCold hx hown (mv hZ w) (mv hZ wi) (mv hZ wz) hg hd hc hl
  rw [hZ.alike.findClass] at h1
  obtain ⟨kZ, z1, -⟩ := Vm.findClass_spec h1
  obtain ⟨k', z2, z3⟩ := hZ.alike.2.2 _ _ z1
  have ek : kC.instanceTypes = kZ.instanceTypes := by rw [Option.some.inj (h2.symm.trans z2), z3]
  obtain ⟨cell, hcell⟩ : ∃ cell : Cell, cell = { cls := cC, slots := kC.instanceTypes.map defaultValue, vm := .none } := ⟨_, rfl⟩
  rw [← hcell] at X' st
  have hp : ((T.setVm vm').pushCell cell).heap = T.heap.push cell := rfl
  have at' : (T.heap.push cell)[T.heap.size]? = some cell := by simp
  refine ⟨_, X', by rw [hp]; simp, by rw [hp]; exact ext_push _ _, ?_, fun {O nm d ty} L ht => ?_, st⟩
  · rw [hp]; exact ⟨cell, kZ, at', by rw [hcell]; exact h1, by rw [hcell]; exact z1, by rw [hcell]; rfl, fun _ => by rw [hcell]; simp [ek]⟩
  · rw [hp]
    obtain ⟨c1, k1, cf, kf, i, f, a1, a2, a3, a4, a5, a6, -⟩ := L.spec
    cases h1.symm.trans a1
    cases z1.symm.trans a2
    refine ⟨cell, cf, kf, i, f, at', a3, a4, by rw [hcell]; simp, by rw [hcell]; rfl, by rw [hcell]; exact a5, ?_⟩
    rw [hcell]; simp [ek, a6, (State.fieldFound?_type a3 ht).2]
theorem newArr1 (X : Stand p l e R s m args below meth c T locs cells slots) (hx : p.tables.exec = Jvm.exec) (hZ : Z.Warmed39 s.vm) {aty : ArrayType} (w : (Jvm.Cond.arrayClass (newarray.typeOf aty)).before a0 Z = true) {g : JFrame} (hg : g.method = m) (hd : decode c.code g.pc = .ok (.newarray aty, 2)) {n : Int32} {rest : List Value} (hs : g.stack = .int n :: rest)
    (hn : ¬ n < 0) (hb : n.toNatClampNeg * 8 ≤ 536870912) (hc : cells + 1 ≤ R.cells) (hl : slots + n.toNatClampNeg ≤ R.slots) :
    ∃ T' cA, Stand p l e R s m args below meth c T' locs (cells + 1) (slots + n.toNatClampNeg) ∧ T'.heap.size = T.heap.size + 1 ∧ Ext T.heap T'.heap ∧ Arr Z T'.heap T.heap.size (newA cA (newarray.typeOf aty) n) (newarray.typeOf aty) ∧
      ∀ target, Steps p.tables e below (T'.setTop { g with pc := g.pc + 2, stack := .ref T.heap.size :: rest }) target → Steps p.tables e below (T.setTop g) target := by
  have hcb : componentBytes (newarray.typeOf aty) ≤ 8 := by cases aty <;> decide
  obtain ⟨cA, kA, comp, h1, h2, h3, X', st⟩ := X.newarrayPrim hx (mvA hZ w) hg hd hs hn (Nat.le_trans (Nat.mul_le_mul_left _ hcb) hb) hc hl
  rw [hZ.alike.findClass] at h1
  obtain ⟨kZ, z1, -⟩ := Vm.findClass_spec h1
  obtain ⟨k', z2, z3⟩ := hZ.alike.2.2 _ _ z1
  have ek : kA.kind = kZ.kind := by rw [Option.some.inj (h2.symm.trans z2), z3]
  have hp : (T.pushCell (newA cA (newarray.typeOf aty) n)).heap = T.heap.push (newA cA (newarray.typeOf aty) n) := rfl
  refine ⟨T.pushCell (newA cA (newarray.typeOf aty) n), cA, X', by rw [hp]; simp, by rw [hp]; exact ext_push _ _, ?_, st⟩
  rw [hp]
  exact ⟨by simp, ⟨by simp [newA], kZ, z1, comp, by rw [← ek]; exact h3⟩, by simp [newA]⟩
end Made
section Heap
variable {C : Ctx} {M : Bdy} {k n pc q : Nat} {P P' : Pat} {S S' : List Value} {G : AH} {Q : Option Value → AH → Prop} {top : Nat} {a : Nat} {qq j idx : Nat} {ob : Rec} {H : List (Nat × Nat × Rec)} {nm ds : String}
theorem Runs.getI (d : DAt M pc (.getfield idx) 3 q) (w : Jvm.Cond.fieldLink M.1.cls idx K.1 nm ds ∈ tables_1) (hk : K.2.1[j]? = some (nm, ds)) (h : Runs C M k n q P (.int (gI ob j) :: S) (top, (a, qq, ob) :: H) Q) : Runs C M k n pc P (.ref a :: S) (top, (a, qq, ob) :: H) Q := by
  intro hw p e s m args below meth c T locs L hx hby hml hret hnm hown hZ hf hsz X hR hF
  have hq := d.2
  subst hq
  obtain ⟨T1, X1, e1, st1⟩ := getF X hx hZ hown (host := "") (Or.inl (hw _ w)) Via.refl rfl (hR.objs.2.2.2.1 j _ hk) (g := mkF m pc L (.ref a :: S)) rfl rfl (hb hby d.1)
  obtain ⟨T', locs', k', n', r, G', g1, g2, g3, g4, g5, g6, g7, g8⟩ := h hw p e s m args below meth c T1 locs L hx hby hml hret hnm hown hZ hf hsz X1 (by rw [e1]; exact hR) hF
  exact ⟨T', locs', k', n', r, G', g1, g2, g3, g4, g5, g6, g7, fun fs hr => st1 _ (g8 fs hr)⟩
theorem Runs.getA {ty : FieldType} {len : Int32} (d : DAt M pc (.getfield idx) 3 q) (hk : K.2.2[j]? = some (nm, ty, len)) (w : Jvm.Cond.fieldLink M.1.cls idx K.1 nm (aD ty) ∈ tables_1) (hq : j < qq) (h : Runs C M k n q P (.ref (a + 1 + j) :: S) (top, (a, qq, ob) :: H) Q) : Runs C M k n pc P (.ref a :: S) (top, (a, qq, ob) :: H) Q := by
  intro hw p e s m args below meth c T locs L hx hby hml hret hnm hown hZ hf hsz X hR hF
  have hqq := d.2
  subst hqq
  obtain ⟨T1, X1, e1, st1⟩ := getF X hx hZ hown (host := "") (Or.inl (hw _ w)) Via.refl rfl (hR.objs.2.2.2.2.1 j _ hk hq).1 (g := mkF m pc L (.ref a :: S)) rfl rfl (hb hby d.1)
  obtain ⟨T', locs', k', n', r, G', g1, g2, g3, g4, g5, g6, g7, g8⟩ := h hw p e s m args below meth c T1 locs L hx hby hml hret hnm hown hZ hf hsz X1 (by rw [e1]; exact hR) hF
  exact ⟨T', locs', k', n', r, G', g1, g2, g3, g4, g5, g6, g7, fun fs hr => st1 _ (g8 fs hr)⟩
theorem lw_of {Z : State} {a0 : Array Value} {meth : Method} (hw : ∀ d ∈ tables_1, d.before a0 Z = true) {C O n d own : String} (h : Jvm.Cond.lays C O n d ∈ tables_1 ∨ Jvm.Cond.laysFinal C O n d ∈ tables_1) (hc : Jvm.Cond.lays C O n d ∈ tables_1 ∨ (own = O ∧ meth.name = "<init>")) : (Jvm.Cond.lays C O n d).before a0 Z = true ∨ ((Jvm.Cond.laysFinal C O n d).before a0 Z = true ∧ own = O ∧ meth.name = "<init>") := by
  rcases hc with hc | hc
  · exact Or.inl (hw _ hc)
  · exact h.imp (hw _) (fun u => ⟨hw _ u, hc⟩)
/-- a field that may be written here: not final, or in a constructor of its class -/
def Mine (M : Bdy) (nm ds : String) : Prop := Jvm.Cond.lays K.1 K.1 nm ds ∈ tables_1 ∨ (M.1.cls = K.1 ∧ M.1.name = "<init>")
theorem Runs.putI {x : Int32} (d : DAt M pc (.putfield idx) 3 q) (w : Jvm.Cond.fieldLink M.1.cls idx K.1 nm "I" ∈ tables_1) (hk : K.2.1[j]? = some (nm, "I")) (hm : Mine M nm "I") (h : Runs C M k n q P S (top, (a, qq, sI ob j x) :: H) Q) : Runs C M k n pc P (.int x :: .ref a :: S) (top, (a, qq, ob) :: H) Q := by
  intro hw p e s m args below meth c T locs L hx hby hml hret hnm hown hZ hf hsz X hR hF
  have hqq := d.2
  subst hqq
  obtain ⟨T1, h1, X1, e1, W1, st1⟩ := putF X hx hZ hown (host := "") (Or.inl (hw _ w)) Via.refl rfl (hR.objs.2.2.2.1 j _ hk) hR.objs.2.2.1 (lw_of hw ((All.mem kS (List.mem_of_getElem? hk)).1) (hm.imp id (fun u => ⟨u.1, hnm.trans u.2⟩))) (hw _ kI) (ty := .int) (by decide) rfl rfl (g := mkF m pc L (.int x :: .ref a :: S)) rfl rfl (hb hby d.1)
  obtain ⟨T', locs', k', n', r, G', g1, g2, g3, g4, g5, g6, g7, g8⟩ := h hw p e s m args below meth c T1 _ L hx hby hml hret hnm hown hZ hf hsz X1 (by rw [e1]; exact hR.putI hw hk W1) (Fr.snoc X1 hF hR.objs.1)
  exact ⟨T', locs', k', n', r, G', g1, g2, g3, g4, g5, g6, g7, fun fs hr => st1 _ (g8 fs hr)⟩
theorem Runs.putZ {x y : Int32} (d : DAt M pc (.putfield idx) 3 q) (w : Jvm.Cond.fieldLink M.1.cls idx K.1 nm "Z" ∈ tables_1) (hk : K.2.1[j]? = some (nm, "Z")) (hm : Mine M nm "Z") (hy : nar .boolean x = y) (h : Runs C M k n q P S (top, (a, qq, sI ob j y) :: H) Q) : Runs C M k n pc P (.int x :: .ref a :: S) (top, (a, qq, ob) :: H) Q := by
  subst hy
  intro hw p e s m args below meth c T locs L hx hby hml hret hnm hown hZ hf hsz X hR hF
  have hqq := d.2
  subst hqq
  obtain ⟨T1, h1, X1, e1, W1, st1⟩ := putFN X hx hZ hown (hw _ w) Via.refl rfl (hR.objs.2.2.2.1 j _ hk) hR.objs.2.2.1 (lw_of hw ((All.mem kS (List.mem_of_getElem? hk)).1) (hm.imp id (fun u => ⟨u.1, hnm.trans u.2⟩))) (hw _ kI) (ty := .boolean) (v' := .int (nar .boolean x)) (by decide) rfl (fits_nar_bool _) (g := mkF m pc L (.int x :: .ref a :: S)) rfl rfl (hb hby d.1)
  obtain ⟨T', locs', k', n', r, G', g1, g2, g3, g4, g5, g6, g7, g8⟩ := h hw p e s m args below meth c T1 _ L hx hby hml hret hnm hown hZ hf hsz X1 (by rw [e1]; exact hR.putI hw hk W1) (Fr.snoc X1 hF hR.objs.1)
  exact ⟨T', locs', k', n', r, G', g1, g2, g3, g4, g5, g6, g7, fun fs hr => st1 _ (g8 fs hr)⟩
theorem Runs.ialoadA {i len : Int32} (d : DAt M pc .iaload 1 q) (hk : K.2.2[j]? = some (nm, .int, len)) (hq : j < qq) (hi : ¬ i < 0 ∧ i < len) (h : Runs C M k n q P (.int (gA ob j i) :: S) (top, (a, qq, ob) :: H) Q) : Runs C M k n pc P (.int i :: .ref (a + 1 + j) :: S) (top, (a, qq, ob) :: H) Q := by
  have hqq := d.2
  subst hqq
  refine Runs.pure d (fun p e s m args below meth c T locs L hw hx hown hZ hd hP hsz hR X => ⟨L, hP, hsz, fun t r => ?_⟩) h
  obtain ⟨cl, A, Sz, V⟩ := (hR.objs.2.2.2.2.1 j _ hk hq).2
  exact X.iaload hx (j := i) (v := .int (gA ob j i)) A.1 (State.isArrayOf_alike hZ.alike A.2.1) A.2.2 (inb_of Sz hi) (V i hi.1 hi.2) (g := mkF m pc L (.int i :: .ref (a + 1 + j) :: S)) rfl rfl hd _ r
theorem Runs.baloadA {i len : Int32} (d : DAt M pc .baload 1 q) (hk : K.2.2[j]? = some (nm, .boolean, len)) (hq : j < qq) (hi : ¬ i < 0 ∧ i < len) (h : Runs C M k n q P (.int (gA ob j i) :: S) (top, (a, qq, ob) :: H) Q) : Runs C M k n pc P (.int i :: .ref (a + 1 + j) :: S) (top, (a, qq, ob) :: H) Q := by
  have hqq := d.2
  subst hqq
  refine Runs.pure d (fun p e s m args below meth c T locs L hw hx hown hZ hd hP hsz hR X => ⟨L, hP, hsz, fun t r => ?_⟩) h
  obtain ⟨cl, A, Sz, V⟩ := (hR.objs.2.2.2.2.1 j _ hk hq).2
  exact X.baloadBooleans hx (j := i) (v := .int (gA ob j i)) A.1 (State.isArrayOf_alike hZ.alike A.2.1) A.2.2 (inb_of Sz hi) (V i hi.1 hi.2) (g := mkF m pc L (.int i :: .ref (a + 1 + j) :: S)) rfl rfl hd _ r
theorem Runs.laloadA {i len : Int32} (d : DAt M pc .laload 1 q) (hk : K.2.2[j]? = some (nm, .long, len)) (hq : j < qq) (hi : ¬ i < 0 ∧ i < len) (h : Runs C M k n q P (.long (gJ ob j i) :: S) (top, (a, qq, ob) :: H) Q) : Runs C M k n pc P (.int i :: .ref (a + 1 + j) :: S) (top, (a, qq, ob) :: H) Q := by
  have hqq := d.2
  subst hqq
  refine Runs.pure d (fun p e s m args below meth c T locs L hw hx hown hZ hd hP hsz hR X => ⟨L, hP, hsz, fun t r => ?_⟩) h
  obtain ⟨cl, A, Sz, V⟩ := (hR.objs.2.2.2.2.1 j _ hk hq).2
  exact X.laload hx (j := i) (v := .long (gJ ob j i)) A.1 (State.isArrayOf_alike hZ.alike A.2.1) A.2.2 (inb_of Sz hi) (V i hi.1 hi.2) (g := mkF m pc L (.int i :: .ref (a + 1 + j) :: S)) rfl rfl hd _ r
theorem Runs.iastoreA {i x len : Int32} (d : DAt M pc .iastore 1 q) (hk : K.2.2[j]? = some (nm, .int, len)) (hq : j < qq) (hi : ¬ i < 0 ∧ i < len) (h : Runs C M k n q P S (top, (a, qq, sA ob j i x) :: H) Q) : Runs C M k n pc P (.int x :: .int i :: .ref (a + 1 + j) :: S) (top, (a, qq, ob) :: H) Q := by
  intro hw p e s m args below meth c T locs L hx hby hml hret hnm hown hZ hf hsz X hR hF
  have hqq := d.2
  subst hqq
  obtain ⟨cl, A, Sz, V⟩ := (hR.objs.2.2.2.2.1 j _ hk hq).2
  obtain ⟨T1, h1, X1, e1, W1, st1⟩ := stI X hx hZ rfl A (j := i) (x := x) (inb_of Sz hi) (g := mkF m pc L (.int x :: .int i :: .ref (a + 1 + j) :: S)) rfl rfl (hb hby d.1)
  obtain ⟨T', locs', k', n', r, G', g1, g2, g3, g4, g5, g6, g7, g8⟩ := h hw p e s m args below meth c T1 _ L hx hby hml hret hnm hown hZ hf hsz X1 (by rw [e1]; exact hR.putA hk hq (by simp) hi W1) (Fr.snoc X1 hF (by have := hR.objs.1; omega))
  exact ⟨T', locs', k', n', r, G', g1, g2, g3, g4, g5, g6, g7, fun fs hr => st1 _ (g8 fs hr)⟩
theorem Runs.bastoreA {i x len : Int32} (d : DAt M pc .bastore 1 q) (hk : K.2.2[j]? = some (nm, .boolean, len)) (hq : j < qq) (hi : ¬ i < 0 ∧ i < len) {y : Int32} (hy : nar .boolean x = y) (h : Runs C M k n q P S (top, (a, qq, sA ob j i y) :: H) Q) : Runs C M k n pc P (.int x :: .int i :: .ref (a + 1 + j) :: S) (top, (a, qq, ob) :: H) Q := by
  subst hy
  intro hw p e s m args below meth c T locs L hx hby hml hret hnm hown hZ hf hsz X hR hF
  have hqq := d.2
  subst hqq
  obtain ⟨cl, A, Sz, V⟩ := (hR.objs.2.2.2.2.1 j _ hk hq).2
  obtain ⟨T1, h1, X1, e1, W1, st1⟩ := stZ X hx hZ rfl A (j := i) (x := x) (inb_of Sz hi) (g := mkF m pc L (.int x :: .int i :: .ref (a + 1 + j) :: S)) rfl rfl (hb hby d.1)
  obtain ⟨T', locs', k', n', r, G', g1, g2, g3, g4, g5, g6, g7, g8⟩ := h hw p e s m args below meth c T1 _ L hx hby hml hret hnm hown hZ hf hsz X1 (by rw [e1]; exact hR.putA hk hq (by simp) hi W1) (Fr.snoc X1 hF (by have := hR.objs.1; omega))
  exact ⟨T', locs', k', n', r, G', g1, g2, g3, g4, g5, g6, g7, fun fs hr => st1 _ (g8 fs hr)⟩
theorem Runs.lastoreA {i len : Int32} {x : Int64} (d : DAt M pc .lastore 1 q) (hk : K.2.2[j]? = some (nm, .long, len)) (hq : j < qq) (hi : ¬ i < 0 ∧ i < len) (h : Runs C M k n q P S (top, (a, qq, sJ ob j i x) :: H) Q) : Runs C M k n pc P (.long x :: .int i :: .ref (a + 1 + j) :: S) (top, (a, qq, ob) :: H) Q := by
  intro hw p e s m args below meth c T locs L hx hby hml hret hnm hown hZ hf hsz X hR hF
  have hqq := d.2
  subst hqq
  obtain ⟨cl, A, Sz, V⟩ := (hR.objs.2.2.2.2.1 j _ hk hq).2
  obtain ⟨T1, h1, X1, e1, W1, st1⟩ := stJ X hx hZ rfl A (j := i) (x := x) (inb_of Sz hi) (g := mkF m pc L (.long x :: .int i :: .ref (a + 1 + j) :: S)) rfl rfl (hb hby d.1)
  obtain ⟨T', locs', k', n', r, G', g1, g2, g3, g4, g5, g6, g7, g8⟩ := h hw p e s m args below meth c T1 _ L hx hby hml hret hnm hown hZ hf hsz X1 (by rw [e1]; exact hR.putJ hk hq rfl hi W1) (Fr.snoc X1 hF (by have := hR.objs.1; omega))
  exact ⟨T', locs', k', n', r, G', g1, g2, g3, g4, g5, g6, g7, fun fs hr => st1 _ (g8 fs hr)⟩
/-- the script: an array that stood before the law began -/
def ScrF (C : Ctx) (sa : Nat) (z : Int32) (f : Int32 → Int32) : Prop := ∃ cl : Cell, Scr C.2.1 C.2.1.heap sa cl z ∧ f = atv cl
theorem Runs.lenS {sa : Nat} {z : Int32} {f : Int32 → Int32} (hs : ScrF C sa z f) (d : DAt M pc .arraylength 1 q) (h : Runs C M k n q P (.int z :: S) G Q) : Runs C M k n pc P (.ref sa :: S) G Q := by
  have hqq := d.2
  subst hqq
  refine Runs.pure d (fun p e s m args below meth c T locs L hw hx hown hZ hd hP hsz hR X => ⟨L, hP, hsz, fun t r => ?_⟩) h
  obtain ⟨cl, F, -⟩ := hs
  obtain ⟨A, Sz, N, V⟩ := F.ext hR.2.1.2
  exact X.arraylength hx A.1 (State.isArrayOf_alike hZ.alike A.2.1) (g := mkF m pc L (.ref sa :: S)) rfl rfl hd _ (by rw [len_of Sz N]; exact r)
theorem Runs.ialoadS {sa : Nat} {z i : Int32} {f : Int32 → Int32} (hs : ScrF C sa z f) (d : DAt M pc .iaload 1 q) (hi : ¬ i < 0 ∧ i < z) (h : Runs C M k n q P (.int (f i) :: S) G Q) : Runs C M k n pc P (.int i :: .ref sa :: S) G Q := by
  have hqq := d.2
  subst hqq
  refine Runs.pure d (fun p e s m args below meth c T locs L hw hx hown hZ hd hP hsz hR X => ⟨L, hP, hsz, fun t r => ?_⟩) h
  obtain ⟨cl, F, rfl⟩ := hs
  obtain ⟨A, Sz, N, V⟩ := F.ext hR.2.1.2
  exact X.iaload hx (j := i) (v := .int (atv cl i)) A.1 (State.isArrayOf_alike hZ.alike A.2.1) A.2.2 (inb_of Sz hi) (V i (inb_of Sz hi)) (g := mkF m pc L (.int i :: .ref sa :: S)) rfl rfl hd _ r
/- leaving -/
theorem Runs.retI {v : Int32} (d : DAt M pc .ireturn 1 q) (hret : M.2.2.2.1 = some .int) (hk : k ≤ M.2.2.2.2.cells ∧ n ≤ M.2.2.2.2.slots) (hQ : Q (some (.int v)) G) : Runs C M k n pc P (.int v :: S) G Q := by
  intro hw p e s m args below meth c T locs L hx hby hml hr0 hnm hown hZ hf hsz X hR hF
  exact ⟨T, locs, k, n, _, G, X, hk.1, hk.2, hR, hF, hQ, (fun u => by rw [hret] at u; cases u), fun fs hr => Jvm.RoadKit.retI X hx (hr0.trans hret) (hb hby d.1) hr⟩
theorem Runs.retZ {v : Int32} (d : DAt M pc .ireturn 1 q) (hret : M.2.2.2.1 = some .boolean) (hk : k ≤ M.2.2.2.2.cells ∧ n ≤ M.2.2.2.2.slots) {y : Int32} (hy : nar .boolean v = y) (hQ : Q (some (.int y)) G) : Runs C M k n pc P (.int v :: S) G Q := by
  subst hy
  intro hw p e s m args below meth c T locs L hx hby hml hr0 hnm hown hZ hf hsz X hR hF
  exact ⟨T, locs, k, n, _, G, X, hk.1, hk.2, hR, hF, hQ, (fun u => by rw [hret] at u; cases u), fun fs hr => retN X hx (t := .boolean) (hr0.trans hret) (by simp) (hb hby d.1) hr⟩
theorem Runs.retJ {v : Int64} (d : DAt M pc .lreturn 1 q) (hret : M.2.2.2.1 = some .long) (hk : k ≤ M.2.2.2.2.cells ∧ n ≤ M.2.2.2.2.slots) (hQ : Q (some (.long v)) G) : Runs C M k n pc P (.long v :: []) G Q := by
  intro hw p e s m args below meth c T locs L hx hby hml hr0 hnm hown hZ hf hsz X hR hF
  exact ⟨T, locs, k, n, _, G, X, hk.1, hk.2, hR, hF, hQ, (fun u => by rw [hret] at u; cases u), fun fs hr => X.lreturnOut hx (hr0.trans hret) (hb hby d.1) hr⟩
theorem Runs.retV (d : DAt M pc .return_ 1 q) (hret : M.2.2.2.1 = none) (hk : k ≤ M.2.2.2.2.cells ∧ n ≤ M.2.2.2.2.slots) (hQ : Q none G) : Runs C M k n pc P [] G Q := by
  intro hw p e s m args below meth c T locs L hx hby hml hr0 hnm hown hZ hf hsz X hR hF
  exact ⟨T, locs, k, n, _, G, X, hk.1, hk.2, hR, hF, hQ, (fun _ => rfl), fun fs hr => X.returnOut hx (hr0.trans hret) (hb hby d.1) hr⟩
/- a new object, and the arrays that its constructor makes -/
theorem Runs.newK (d : DAt M pc (.new idx) 3 q) (w : Jvm.Cond.classLink M.1.cls idx K.1 ∈ tables_1) (hc : k + 1 ≤ M.2.2.2.2.cells ∧ n + kN ≤ M.2.2.2.2.slots) {k' n' : Nat} (hk' : k + 1 = k') (hn' : n + kN = n') {H : List (Nat × Nat × Rec)} (hd : ∀ x ∈ H, x.1 + x.2.1 < top) (h : Runs C M k' n' q P (.ref top :: S) (top + 1, (top, 0, zrec) :: H) Q) : Runs C M k n pc P S (top, H) Q := by
  subst hk' hn'
  intro hw p e s m args below meth c T locs L hx hby hml hr0 hnm hown hZ hf hsz X hR hF
  have hqq := d.2
  subst hqq
  obtain ⟨T2, X2, s2, E2, A2, D2, st2⟩ := new1 X hx hZ hown (hw _ w) (hw _ kI) (hw _ kZ) (g := mkF m pc L S) rfl (hb hby d.1) hc.1 hc.2
  have hs : T.heap.size = top := hR.1
  rw [hs] at A2 D2 st2 s2
  have hR2 : Rep C.2.1 C.2.2.1 T2.heap (top + 1, (top, 0, zrec) :: H) := by
    refine ⟨s2, hR.2.1.ext E2, fun x hx' => ?_, ?_⟩
    · rcases List.mem_cons.mp hx' with rfl | hx'
      · refine ⟨?_, by simp, A2, fun k nd hk => ?_, fun k t hk hq => by simp at hq, fun k t hk hq => ?_⟩
        · have := hR.2.1.2.1; rw [hR.2.1.1] at this; simp only; omega
        · rcases (All.mem kS (List.mem_of_getElem? hk)).2 with e | e
          · have := D2 (laidS hw hk) (ty := .int) (by rw [e]; decide); exact this
          · have := D2 (laidS hw hk) (ty := .boolean) (by rw [e]; decide); exact this
        · have := D2 (laidA hw hk) (pfA hk); exact this
      · obtain ⟨p1, p2, p3⟩ := hR.2.2.1 x hx'
        exact ⟨p1, by simp only at p2 ⊢; omega, p3.ext E2⟩
    · exact List.pairwise_cons.mpr ⟨fun y hy => Or.inr (hd y hy), hR.2.2.2⟩
  obtain ⟨T', locs', k', n', r, G', g1, g2, g3, g4, g5, g6, g7, g8⟩ := h hw p e s m args below meth c T2 _ L hx hby hml hr0 hnm hown hZ hf hsz X2 hR2 hF
  exact ⟨T', locs', k', n', r, G', g1, g2, g3, g4, g5, g6, g7, fun fs hr => st2 _ (g8 fs hr)⟩
/-- newarray and the putfield behind it: the next array of an object that is being made -/
theorem Runs.newArr {aty : ArrayType} {ty : FieldType} {len : Int32} {q1 : Nat} (d : DAt M pc (.newarray aty) 2 q1) (d' : DAt M q1 (.putfield idx) 3 q) (hk : K.2.2[j]? = some (nm, ty, len)) (w : Jvm.Cond.fieldLink M.1.cls idx K.1 nm (aD ty) ∈ tables_1) (ht : newarray.typeOf aty = ty) (wa : Jvm.Cond.arrayClass ty ∈ tables_1) (hm : Mine M nm (aD ty))
    (htop : top = a + 1 + j) (hlen : ¬ len < 0 ∧ len.toNatClampNeg * 8 ≤ 536870912) (hc : k + 1 ≤ M.2.2.2.2.cells ∧ n + len.toNatClampNeg ≤ M.2.2.2.2.slots) (hz : (∀ i, ob.2.1 j i = 0) ∧ (∀ i, ob.2.2 j i = 0)) {j' top' k' n' : Nat} (hj' : j + 1 = j') (ht' : top + 1 = top') (hk' : k + 1 = k') (hn' : n + len.toNatClampNeg = n')
    (h : Runs C M k' n' q P S (top', (a, j', ob) :: H) Q) : Runs C M k n pc P (.int len :: .ref a :: S) (top, (a, j, ob) :: H) Q := by
  subst hj' ht' hk' hn'
  intro hw p e s m args below meth c T locs L hx hby hml hr0 hnm hown hZ hf hsz X hR hF
  have hqq := d.2
  have hqq' := d'.2
  subst hqq hqq' ht
  obtain ⟨T1, cA, X1, s1, E1, A1, st1⟩ := newArr1 X hx hZ (hw _ wa) (g := mkF m pc L (.int len :: .ref a :: S)) rfl (hb hby d.1) rfl hlen.1 hlen.2 hc.1 hc.2
  have hs : T.heap.size = top := hR.1
  rw [hs] at A1 st1 s1
  have O1 := hR.objs.2.2.ext E1
  obtain ⟨T2, h2, X2, e2, W2, st2⟩ := putF X1 hx hZ hown (host := "") (Or.inl (hw _ w)) Via.refl rfl (O1.2.2.2 j _ hk (Nat.le_refl _)) O1.1 (lw_of hw ((All.mem kA (List.mem_of_getElem? hk)).1) (hm.imp id (fun u => ⟨u.1, hnm.trans u.2⟩))) (hw _ kI) (ty := .array (newarray.typeOf aty)) (pfA hk) rfl rfl (g := mkF m (pc + 2) L (.ref top :: .ref a :: S)) rfl rfl (hb hby d'.1)
  have hts : (newarray.typeOf aty = .int ∨ newarray.typeOf aty = .boolean ∨ newarray.typeOf aty = .long) := (All.mem kA (List.mem_of_getElem? hk)).2.1
  have hA := arr_new A1 hts hz
  have hR2 : Rep C.2.1 C.2.2.1 T2.heap (top + 1, (a, j + 1, ob) :: H) := by rw [e2]; exact hR.addA hw E1 s1 htop hk hA W2
  obtain ⟨T', locs', k', n', r, G', g1, g2, g3, g4, g5, g6, g7, g8⟩ := h hw p e s m args below meth c T2 _ L hx hby hml hr0 hnm hown hZ hf hsz X2 hR2 (Fr.snoc X2 hF hR.objs.1)
  exact ⟨T', locs', k', n', r, G', g1, g2, g3, g4, g5, g6, g7, fun fs hr => st1 _ (st2 _ (g8 fs hr))⟩
theorem Runs.initO {W : Nat} (d : DAt M pc (.invokespecial idx) 3 q) (w1 : Jvm.Cond.methodLink M.1.cls idx Lib.objectInit ∈ tables_1) (w2 : Jvm.Cond.instanceMethod Lib.objectInit ∈ tables_1) (w3 : Jvm.Cond.code Lib.objectInit ⟨#[0xb1]⟩ 1 none ∈ tables_1) (hW : (S.map fun v => v.category).sum = W) (hc : 1 ≤ M.2.2.2.2.frames ∧ W + 12 ≤ M.2.2.2.2.locals) (h : Runs C M k n q P S G Q) : Runs C M k n pc P (.ref a :: S) G Q := by
  intro hw p e s m args below meth c T locs L hx hby hml hr0 hnm hown hZ hf hsz X hR hF
  have hqq := d.2
  subst hqq
  obtain ⟨T1, X1, e1, st1⟩ := Jvm.RoadKit.initO X hx hZ hown (hw _ w1) (hw _ w2) (hw _ w3) rfl (g := mkF m pc L (.ref a :: S)) rfl (by rw [hml]; exact hsz) rfl (hb hby d.1) hc.1 (W := W) (by show 2 * 0 + _ ≤ _; omega) hc.2
  obtain ⟨T', locs', k', n', r, G', g1, g2, g3, g4, g5, g6, g7, g8⟩ := h hw p e s m args below meth c T1 _ L hx hby hml hr0 hnm hown hZ hf hsz X1 (by rw [e1]; exact hR) hF
  exact ⟨T', locs', k', n', r, G', g1, g2, g3, g4, g5, g6, g7, fun fs hr => st1 _ (g8 fs hr)⟩
end Heap
/- a body's contract, and the calls that are paid by one -/
def Pays (C : Ctx) (N : Bdy) (as : List Value) (G : AH) (Q : Option Value → AH → Prop) : Prop :=
  Ok C → ∀ h0 : Heap, Rep C.2.1 C.2.2.1 h0 G → ∀ ws : List Jvm.Cond, MetFree C.1 N.1 (head1 (Jvm.Cond.code N.1 N.2.1 N.2.2.1 N.2.2.2.1 :: ws) N.2.2.2.2) (fun a U => a = as.toArray ∧ C.2.1.Warmed39 U.vm ∧ U.heap = h0) (fun _ _ _ _ _ => True)
    (fun _ U o U' => ∃ v L, o = .returned v ∧ (Fr C.2.2.1 L ∧ ∃ G', Rep C.2.1 C.2.2.1 U'.heap G' ∧ Q v G') ∧ FrameEnd U o U' L N.2.2.2.2.cells N.2.2.2.2.slots)
def lay : List Value → List Slot
  | [] => []
  | v :: l => if v.category = 2 then .val v :: .second :: lay l else .val v :: lay l
theorem lay_foldl (l : List Value) : ∀ acc : Array Slot, (l.foldl (fun acc v => if v.category = 2 then (acc.push (.val v)).push .second else acc.push (.val v)) acc).toList = acc.toList ++ lay l := by
  induction l with
  | nil => intro acc; simp [lay]
  | cons v l ih =>
    intro acc
    rw [List.foldl_cons, ih]
    by_cases h : v.category = 2 <;> simp [lay, h]
theorem args_lay (as : List Value) (ml : Nat) : argsToLocals as.toArray ml = (lay as ++ List.replicate (ml - (lay as).length) Slot.unset).toArray := by
  have h := lay_foldl as #[]
  apply Array.ext'
  simp only [argsToLocals, Array.toList_append, List.toList_toArray] at *
  rw [show (as.toArray.foldl (init := #[]) fun acc v => if v.category = 2 then (acc.push (Slot.val v)).push .second else acc.push (.val v)).toList = lay as by simpa using h]
  congr 1
  rw [← Array.length_toList, show (as.toArray.foldl (init := #[]) fun acc v => if v.category = 2 then (acc.push (Slot.val v)).push .second else acc.push (.val v)).toList = lay as by simpa using h]
  simp
def WFL (l : List Slot) : Prop := (∀ i : Nat, l[i]? = some .second → ∃ (j : Nat) (v : Value), i = j + 1 ∧ l[j]? = some (.val v) ∧ v.category = 2) ∧ (∀ (i : Nat) (v : Value), l[i]? = some (.val v) → v.category = 2 → l[i + 1]? = some .second)
theorem WFL.unset (n : Nat) : WFL (List.replicate n Slot.unset) := by
  refine ⟨fun i h => ?_, fun i v h => ?_⟩ <;> (rw [List.getElem?_replicate] at h; split at h <;> cases h)
theorem WFL.one {l : List Slot} {v : Value} (h : WFL l) (hv : v.category ≠ 2) : WFL (.val v :: l) := by
  refine ⟨fun i hi => ?_, fun i w hi hw => ?_⟩
  · cases i with
    | zero => simp at hi
    | succ i =>
      obtain ⟨j, w, e1, e2, e3⟩ := h.1 i (by simpa using hi)
      exact ⟨j + 1, w, by omega, by simpa using e2, e3⟩
  · cases i with
    | zero => simp at hi; subst hi; exact absurd hw hv
    | succ i => have := h.2 i w (by simpa using hi) hw; simpa using this
theorem WFL.two {l : List Slot} {v : Value} (h : WFL l) (hv : v.category = 2) : WFL (.val v :: .second :: l) := by
  refine ⟨fun i hi => ?_, fun i w hi hw => ?_⟩
  · match i, hi with
    | 0, hi => simp at hi
    | 1, hi => exact ⟨0, v, rfl, by simp, hv⟩
    | i + 2, hi =>
      obtain ⟨j, w, e1, e2, e3⟩ := h.1 i (by simpa using hi)
      exact ⟨j + 2, w, by omega, by simpa using e2, e3⟩
  · match i, hi with
    | 0, hi => simp
    | 1, hi => simp at hi
    | i + 2, hi => have := h.2 i w (by simpa using hi) hw; simpa using this
theorem WFL.lay (as : List Value) (n : Nat) : WFL (lay as ++ List.replicate n Slot.unset) := by
  induction as with
  | nil => exact WFL.unset n
  | cons v l ih =>
    by_cases h : v.category = 2
    · simpa [Jvm.Pilot.@@N@@.lay, h] using ih.two h
    · simpa [Jvm.Pilot.@@N@@.lay, h] using ih.one h
def pforget : List Bool → Pat → Pat
  | [], _ => []
  | _, [] => []
  | true :: ms, x :: l => x :: pforget ms l
  | false :: ms, _ :: l => none :: pforget ms l
theorem pforget_get : ∀ (ms : List Bool) (P : Pat) (i : Nat) (s : Slot), pget (pforget ms P) i = some s → pget P i = some s
  | [], _, i, s, h => by simp [pforget, pget] at h
  | _ :: _, [], i, s, h => by simp [pforget, pget] at h
  | true :: ms, x :: l, 0, s, h => h
  | true :: ms, x :: l, i + 1, s, h => pforget_get ms l i s h
  | false :: ms, x :: l, 0, s, h => by simp [pforget, pget] at h
  | false :: ms, x :: l, i + 1, s, h => pforget_get ms l i s h
section Calls
variable {C : Ctx} {M N : Bdy} {k n pc q : Nat} {P P' : Pat} {S S' : List Value} {G G1 : AH} {Q : Option Value → AH → Prop} {top : Nat} {a : Nat} {qq j idx W : Nat} {ob : Rec} {H : List (Nat × Nat × Rec)} {as : List Value}
theorem Runs.forget (ms : List Bool) (hP : pforget ms P = P') (h : Runs C M k n pc P' S G Q) : Runs C M k n pc P S G Q := by
  intro hw p e s m args below meth c T locs L hx hby hml hret hnm hown hZ hf
  subst hP
  exact h hw p e s m args below meth c T locs L hx hby hml hret hnm hown hZ ⟨fun i s hi => hf.1 i s (pforget_get _ _ i s hi), hf.2⟩
theorem Pays.of (hpl : plainName N.1.cls = true) (hml : (lay as).length ≤ N.2.2.1) (x : Nat) (hP : (lay as).map some ++ List.replicate x none = P) (h : Runs C N 0 0 0 P [] G Q) : Pays C N as G Q := by
  intro hw h0 hR ws
  refine MetFree.of_bodySF (plainFor_of_name hpl) hisR ?_
  intro p e s m args below meth c s₁ Bd hml0 hp hK
  obtain ⟨rfl, hZ, hh⟩ := hp
  have X0 : Stand p C.1 e N.2.2.2.2 s m as.toArray below meth c s₁ [] 0 0 := Stand.of_body Bd
  have e0 : s₁.heap = h0 := by rw [← hh, Bd.state]; rfl
  obtain ⟨L, hL⟩ : ∃ L : Array Slot, L = (lay as ++ List.replicate (N.2.2.1 - (lay as).length) Slot.unset).toArray := ⟨_, rfl⟩
  have hfit : Fits P L := by
    subst hP hL
    refine ⟨fun i s hi => ?_, ?_⟩
    · rw [pget_eq] at hi
      cases hq : (lay as)[i]? with
      | none =>
        rw [List.getElem?_append_right (by simpa using hq), List.getElem?_replicate] at hi
        split at hi <;> simp at hi
      | some y =>
        have hlt := (List.getElem?_eq_some_iff.mp hq).1
        rw [List.getElem?_append_left (by simpa using hlt), List.getElem?_map, hq] at hi
        have this : y = s := by simpa using hi
        simp only [List.getElem?_toArray]
        rw [List.getElem?_append_left hlt, hq, this]
    · have := WFL.lay as (N.2.2.1 - (lay as).length)
      refine ⟨fun i hi => ?_, fun i v hi hv => ?_⟩
      · rw [List.getElem?_toArray] at hi
        obtain ⟨j, v, e1, e2, e3⟩ := this.1 i hi
        exact ⟨j, v, e1, by rw [List.getElem?_toArray]; exact e2, e3⟩
      · rw [List.getElem?_toArray] at hi ⊢
        exact this.2 i v hi hv
  obtain ⟨T', locs', k', n', r, G', g1, g2, g3, g4, g5, g6, g7, g8⟩ := h hw p e s m as.toArray below meth c s₁ [] L Bd.exec Bd.bytes hml0 Bd.returns (name_of_methodNamed Bd.named Bd.method).1 (findClass_of_methodNamed Bd.named) hZ hfit (by rw [hL]; simp; omega) X0 (by rw [e0]; exact hR) (Fr.nil _)
  obtain ⟨fs, hr, hrun, hended, hW, hsame⟩ := g1.leave (v := r) (fun u => g7 (by rw [← Bd.returns]; exact u))
  refine ⟨_, _, ?_, hrun, hended, _, _, rfl, ⟨g5, G', ?_, g6⟩, ⟨_, rfl⟩, hW, hsame.mono g2 g3⟩
  · have ef : entryFrame m as.toArray N.2.2.1 = mkF m 0 L [] := by
      rw [hL, ← args_lay]; rfl
    rw [ef]; exact g8 fs hr
  · exact g4
abbrev room_al (M N : Bdy) (W k n : Nat) : Prop := N.2.2.2.2.frames + 1 ≤ M.2.2.2.2.frames ∧ W + (N.2.2.1 + 11) + N.2.2.2.2.locals ≤ M.2.2.2.2.locals ∧ k + N.2.2.2.2.cells ≤ M.2.2.2.2.cells ∧ n + N.2.2.2.2.slots ≤ M.2.2.2.2.slots
abbrev room_ok (M N : Bdy) (W : Nat) : Prop := N.2.2.2.2.frames + 1 ≤ M.2.2.2.2.frames ∧ W + (N.2.2.1 + 11) + N.2.2.2.2.locals ≤ M.2.2.2.2.locals ∧ N.2.2.2.2.cells = 0 ∧ N.2.2.2.2.slots = 0
abbrev full_ok (M : Bdy) (k n : Nat) : Prop := k ≤ M.2.2.2.2.cells ∧ n ≤ M.2.2.2.2.slots
theorem room_ok.al (h : room_ok M N W) (f : full_ok M k n) : room_al M N W k n := ⟨h.1, h.2.1, by rw [h.2.2.1]; exact f.1, by rw [h.2.2.2]; exact f.2⟩
abbrev code_w (N : Bdy) : Prop := Jvm.Cond.code N.1 N.2.1 N.2.2.1 N.2.2.2.1 ∈ tables_1 ∧ Jvm.Cond.initialized N.1.cls ∈ tables_1 ∧ (N.1.cls ≠ "java/lang/invoke/MethodHandle" ∧ N.1.cls ≠ "java/lang/invoke/VarHandle")
def arity (N : Bdy) (na : Nat) : Prop := ∃ ps r, parseMethodDescriptor N.1.desc = some ⟨ps, r⟩ ∧ na = ps.length
theorem arity.len {na : Nat} (h : arity N na) (e : as.length = na) : ∀ sig, parseMethodDescriptor N.1.desc = some sig → as.length = sig.parameters.length := by
  obtain ⟨ps, r, h1, h2⟩ := h
  exact lenOf h1 (e.trans h2)
theorem after_call {v : Option Value} {p : Program} {e : Env} {s : State} {m : MethodId} {args : Array Value} {below : List Frame} {meth : Method} {c : Code} {T T0 : State} {locs : List Loc} {L : Array Slot} {QN : Option Value → AH → Prop} {Lc : List Loc}
    (hw : Ok C) (hx : p.tables.exec = Jvm.exec) (hby : c.code = M.2.1) (hml : c.maxLocals = M.2.2.1) (hret : meth.sig.returnType = M.2.2.2.1) (hnm : meth.name = M.1.name) (hown : s.vm.findClass M.1.cls = some m.cls) (hZ : C.2.1.Warmed39 s.vm) (hf : Fits P L) (hsz : L.size = M.2.2.1) (hF : Fr C.2.2.1 locs)
    (X : Stand p C.1 e M.2.2.2.2 s m args below meth c T (locs ++ Lc) (k + N.2.2.2.2.cells) (n + N.2.2.2.2.slots)) (hQ : Fr C.2.2.1 Lc ∧ ∃ G', Rep C.2.1 C.2.2.1 T.heap G' ∧ QN v G')
    (h : ∀ v G', QN v G' → Runs C M (k + N.2.2.2.2.cells) (n + N.2.2.2.2.slots) (pc + 3) P (v.toList ++ S') G' Q)
    (st : ∀ t, Steps p.tables e below (T.setTop (mkF m (pc + 3) L (v.toList ++ S'))) t → Steps p.tables e below (T0.setTop (mkF m pc L S)) t) :
    ∃ (T' : State) (locs' : List Loc) (k' n' : Nat) (r : Option Value) (G' : AH), Stand p C.1 e M.2.2.2.2 s m args below meth c T' locs' k' n' ∧ k' ≤ M.2.2.2.2.cells ∧ n' ≤ M.2.2.2.2.slots ∧ Rep C.2.1 C.2.2.1 T'.heap G' ∧ Fr C.2.2.1 locs' ∧ Q r G' ∧
      (M.2.2.2.1 = none → r = none) ∧
      ∀ fs : List Frame, (∀ (f : JFrame) (acts : List Action), f.method = m → f.locked = none → f.entered = [] → (doReturn e (T'.setTop f) acts r).1 = T'.setFrames fs) → Steps p.tables e below (T0.setTop (mkF m pc L S)) (T'.setFrames fs) := by
  obtain ⟨f1, G', f2, f3⟩ := hQ
  obtain ⟨T', locs', k', n', r, G'', g1, g2, g3, g4, g5, g6, g7, g8⟩ := h v G' f3 hw p e s m args below meth c T _ L hx hby hml hret hnm hown hZ hf hsz X f2 (Fr.app hF f1)
  exact ⟨T', locs', k', n', r, G'', g1, g2, g3, g4, g5, g6, g7, fun fs hr => st _ (g8 fs hr)⟩
theorem Runs.callS {QN : Option Value → AH → Prop} (d : DAt M pc (.invokestatic idx) 3 q) (wl : Jvm.Cond.methodLink M.1.cls idx N.1 ∈ tables_1) (wt : Jvm.Cond.static N.1 ∈ tables_1) (wc : code_w N) (ar : arity N as.length) (hr0 : room_ok M N W) (hfull : full_ok M k n) (hS : S = as.reverse ++ S') (hW : (S'.map fun v => v.category).sum = W)
    (hN : Pays C N as G QN) (h : ∀ v G', QN v G' → Runs C M k n q P (v.toList ++ S') G' Q) : Runs C M k n pc P S G Q := by
  intro hw p e s m args below meth c T locs L hx hby hml hret hnm hown hZ hf hsz X hR hF
  have hq := d.2
  subst hq hS
  have hr := hr0.al hfull
  obtain ⟨_, _, ⟨T1, L1, k1, n1⟩, -, X1, ⟨Lc, hQ, l1, y1, z1⟩, st⟩ := Jvm.LawKit.callS X hx (y := N.1) hown (mvT hZ (hw _ wl)) (mvT hZ (hw _ wt)) (mvT hZ (hw _ wc.2.1)) (mvT hZ (hw _ wc.1)) wc.2.2 (backOf (W := W) (Q := fun v h L => Fr C.2.2.1 L ∧ ∃ G', Rep C.2.1 C.2.2.1 h G' ∧ QN v G') (hN hw T.heap hR []) hZ (hw _ wc.1) (hw _ wc.2.1) hr.1 hr.2.1) (g := mkF m pc L (as.reverse ++ S')) rfl (by rw [hml]; exact hsz) (argsL := as) (rest := S') (ar.len rfl) rfl (by show 2 * 0 + _ ≤ _; omega) (hb hby d.1) (fun _ _ => ⟨rfl, rfl, hr.2.2.1, hr.2.2.2⟩)
  dsimp only [Pt.U, Pt.locs, Pt.cells, Pt.slots] at X1 l1 y1 z1 st hQ
  subst l1 y1 z1
  exact after_call hw hx hby hml hret hnm hown hZ hf hsz hF X1 hQ (by rw [hr0.2.2.1, hr0.2.2.2]; exact h) (fun t u => st t u)
theorem Runs.callV {QN : Option Value → AH → Prop} (d : DAt M pc (.invokevirtual idx) 3 q) (wl : Jvm.Cond.methodLink M.1.cls idx N.1 ∈ tables_1) (wd : Jvm.Cond.declares N.1 ∈ tables_1) (wi : Jvm.Cond.instanceMethod N.1 ∈ tables_1) (ws : Jvm.Cond.selects K.1 N.1 N.1 ∈ tables_1) (wc : code_w N) (ar : arity N as.length) (hr0 : room_ok M N W) (hfull : full_ok M k n) (hS : S = as.reverse ++ .ref a :: S') (hW : (S'.map fun v => v.category).sum = W)
    (hN : Pays C N (.ref a :: as) (top, (a, qq, ob) :: H) QN) (h : ∀ v G', QN v G' → Runs C M k n q P (v.toList ++ S') G' Q) : Runs C M k n pc P S (top, (a, qq, ob) :: H) Q := by
  intro hw p e s m args below meth c T locs L hx hby hml hret hnm hown hZ hf hsz X hR hF
  have hq := d.2
  subst hq hS
  have hr := hr0.al hfull
  obtain ⟨cB, kB, u1, -, u3⟩ := isOf hZ rfl hR.objs.2.2.1
  obtain ⟨_, _, ⟨T1, L1, k1, n1⟩, -, X1, ⟨Lc, hQ, l1, y1, z1⟩, st⟩ := X.virtualBack hx (y := N.1) (z := N.1) hown (mvT hZ (hw _ wl)) (mvT hZ (hw _ wd)) (notFace_of_selects (args := #[]) (mvT hZ (hw _ ws))) (mvT hZ (hw _ ws)) (mvT hZ (hw _ wi)) wc.2.2 (backOf (W := W) (Q := fun v h L => Fr C.2.2.1 L ∧ ∃ G', Rep C.2.1 C.2.2.1 h G' ∧ QN v G') (hN hw T.heap hR []) hZ (hw _ wc.1) (hw _ wc.2.1) hr.1 hr.2.1) u1 u3 (g := mkF m pc L (as.reverse ++ .ref a :: S')) rfl (by rw [hml]; exact hsz) (Steps.refl _) (argsL := as) (rest := S') (ar.len rfl) rfl (by show 2 * 0 + _ ≤ _; omega) (hb hby d.1) (fun _ _ => ⟨rfl, rfl, hr.2.2.1, hr.2.2.2⟩)
  dsimp only [Pt.U, Pt.locs, Pt.cells, Pt.slots] at X1 l1 y1 z1 st hQ
  subst l1 y1 z1
  exact after_call hw hx hby hml hret hnm hown hZ hf hsz hF X1 hQ (by rw [hr0.2.2.1, hr0.2.2.2]; exact h) (fun t u => st.trans u)
theorem Runs.callP {QN : Option Value → AH → Prop} (d : DAt M pc (.invokevirtual idx) 3 q) (wl : Jvm.Cond.methodLink M.1.cls idx N.1 ∈ tables_1) (wi : Jvm.Cond.instanceMethod N.1 ∈ tables_1) (wp : Jvm.Cond.privateMethod N.1 ∈ tables_1) (wK : N.1.cls = K.1) (wc : code_w N) (ar : arity N as.length) (hr0 : room_ok M N W) (hfull : full_ok M k n) (hS : S = as.reverse ++ .ref a :: S') (hW : (S'.map fun v => v.category).sum = W)
    (hN : Pays C N (.ref a :: as) (top, (a, qq, ob) :: H) QN) (h : ∀ v G', QN v G' → Runs C M k n q P (v.toList ++ S') G' Q) : Runs C M k n pc P S (top, (a, qq, ob) :: H) Q := by
  intro hw p e s m args below meth c T locs L hx hby hml hret hnm hown hZ hf hsz X hR hF
  have hq := d.2
  subst hq hS
  have hr := hr0.al hfull
  obtain ⟨cl, u1, u2⟩ := hR.objs.2.2.1.cell
  have hpr : s.PrivateAt N.1 := Cond.privateMethod_at (mvP hZ (hw _ wp) (args := #[]))
  obtain ⟨c2, k2, i1, i2, i3, i4, -⟩ := Cond.instantiable_spec (mvT (args := args) hZ (hw _ kI))
  have hsel : (Jvm.Cond.selects N.1.cls N.1 N.1).before args s = true := Stand.selects_self_of_private (by rw [wK]; exact i1) i2 (by simp at i4; exact i4.1) hpr (mvT hZ (hw _ wi)) wc.2.2
  obtain ⟨_, _, ⟨T1, L1, k1, n1⟩, -, X1, ⟨Lc, hQ, l1, y1, z1⟩, st⟩ := X.privateBack hx (y := N.1) hown (mvT hZ (hw _ wl)) (mvT hZ (hw _ wi)) hsel hpr (mvT hZ (hw _ wc.1)) wc.2.2 (backOf (W := W) (Q := fun v h L => Fr C.2.2.1 L ∧ ∃ G', Rep C.2.1 C.2.2.1 h G' ∧ QN v G') (hN hw T.heap hR []) hZ (hw _ wc.1) (hw _ wc.2.1) hr.1 hr.2.1) (g := mkF m pc L (as.reverse ++ .ref a :: S')) rfl (by rw [hml]; exact hsz) (Steps.refl _) (a := a) u1 u2 (argsL := as) (rest := S') (ar.len rfl) rfl (by show 2 * 0 + _ ≤ _; omega) (hb hby d.1) (fun _ _ => ⟨rfl, rfl, hr.2.2.1, hr.2.2.2⟩)
  dsimp only [Pt.U, Pt.locs, Pt.cells, Pt.slots] at X1 l1 y1 z1 st hQ
  subst l1 y1 z1
  exact after_call hw hx hby hml hret hnm hown hZ hf hsz hF X1 hQ (by rw [hr0.2.2.1, hr0.2.2.2]; exact h) (fun t u => st.trans u)
theorem Runs.callI {QN : Option Value → AH → Prop} (d : DAt M pc (.invokespecial idx) 3 q) (hi : N.1.name = "<init>") (hn : N.2.2.2.1 = none) (wl : Jvm.Cond.methodLink M.1.cls idx N.1 ∈ tables_1) (wi : Jvm.Cond.instanceMethod N.1 ∈ tables_1) (wc : code_w N) (ar : arity N as.length) (hr : room_al M N W k n) (hS : S = as.reverse ++ .ref a :: S') (hW : (S'.map fun v => v.category).sum = W) {k' n' : Nat} (hk' : k + N.2.2.2.2.cells = k') (hn' : n + N.2.2.2.2.slots = n')
    (hN : Pays C N (.ref a :: as) G QN) (h : ∀ v G', QN v G' → Runs C M k' n' q P (v.toList ++ S') G' Q) : Runs C M k n pc P S G Q := by
  intro hw p e s m args below meth c T locs L hx hby hml hret hnm hown hZ hf hsz X hR hF
  have hq := d.2
  subst hq hS hk' hn'
  have wc1 := hw _ wc.1
  obtain ⟨_, _, ⟨T1, L1, k1, n1⟩, -, X1, ⟨Lc, hQ, l1, y1, z1⟩, st⟩ := X.specialBack hx (y := N.1) hi hown (mvT hZ (hw _ wl)) (mvT hZ (hw _ wi)) (bytes := N.2.1) (maxL := N.2.2.1) (by have := mvT (args := args) hZ wc1; rw [hn] at this; exact this) wc.2.2 (backOf (W := W) (Q := fun v h L => Fr C.2.2.1 L ∧ ∃ G', Rep C.2.1 C.2.2.1 h G' ∧ QN v G') (hN hw T.heap hR []) hZ wc1 (hw _ wc.2.1) hr.1 hr.2.1) (g := mkF m pc L (as.reverse ++ .ref a :: S')) rfl (by rw [hml]; exact hsz) (Steps.refl _) (a := a) (argsL := as) (rest := S') (ar.len rfl) rfl (by show 2 * 0 + _ ≤ _; omega) (hb hby d.1) (fun _ _ => ⟨rfl, rfl, hr.2.2.1, hr.2.2.2⟩)
  dsimp only [Pt.U, Pt.locs, Pt.cells, Pt.slots] at X1 l1 y1 z1 st hQ
  subst l1 y1 z1
  exact after_call hw hx hby hml hret hnm hown hZ hf hsz hF X1 hQ h (fun t u => st.trans u)
/-- the plain form of a contract: one answer, one heap -/
abbrev Ans (r : Option Value) (G1 : AH) : Option Value → AH → Prop := fun v G' => v = r ∧ G' = G1
theorem ans1 {x : Value} {k n : Nat} (h : Runs C M k n pc P (x :: S) G1 Q) : ∀ v G', Ans (some x) G1 v G' → Runs C M k n pc P (v.toList ++ S) G' Q := by
  rintro v G' ⟨rfl, rfl⟩; exact h
theorem ans0 {k n : Nat} (h : Runs C M k n pc P S G1 Q) : ∀ v G', Ans none G1 v G' → Runs C M k n pc P (v.toList ++ S) G' Q := by
  rintro v G' ⟨rfl, rfl⟩; exact h
end Calls
theorem pnK : plainName "XorGaussSat" = true := by first | (simp [plainName, overriddenIn]; done) | decide +kernel
theorem pnL : plainName "XorGaussSatL2" = true := by first | (simp [plainName, overriddenIn]; done) | decide +kernel
theorem w0 : (Jvm.Cond.classLink "XorGaussSatL2" (7 : Nat) "XorGaussSat") ∈ tables_1 := mem1 0 rfl
theorem w3 : (Jvm.Cond.methodLink "XorGaussSatL2" (9 : Nat) ({ cls := "XorGaussSat", name := "<init>", desc := "(I)V" } : Jvm.MethodName)) ∈ tables_1 := mem1 3 rfl
theorem w4 : (Jvm.Cond.instanceMethod ({ cls := "XorGaussSat", name := "<init>", desc := "(I)V" } : Jvm.MethodName)) ∈ tables_1 := mem1 4 rfl
theorem w6 : (Jvm.Cond.methodLink "XorGaussSat" (1 : Nat) ({ cls := "java/lang/Object", name := "<init>", desc := "()V" } : Jvm.MethodName)) ∈ tables_1 := mem1 6 rfl
theorem w7 : (Jvm.Cond.instanceMethod ({ cls := "java/lang/Object", name := "<init>", desc := "()V" } : Jvm.MethodName)) ∈ tables_1 := mem1 7 rfl
theorem w8 : (Jvm.Cond.code ({ cls := "java/lang/Object", name := "<init>", desc := "()V" } : Jvm.MethodName) object_method_1_code (1 : Nat) (Option.none : Option Jvm.ClassFile.FieldType)) ∈ tables_1 := mem1 8 rfl
theorem w9 : (Jvm.Cond.arrayClass Jvm.ClassFile.FieldType.int) ∈ tables_1 := mem1 9 rfl
theorem w10 : (Jvm.Cond.fieldLink "XorGaussSat" (7 : Nat) "XorGaussSat" "pendVar" "[I") ∈ tables_1 := mem1 10 rfl
theorem w12 : (Jvm.Cond.arrayClass Jvm.ClassFile.FieldType.boolean) ∈ tables_1 := mem1 12 rfl
theorem w13 : (Jvm.Cond.fieldLink "XorGaussSat" (13 : Nat) "XorGaussSat" "pendNeg" "[Z") ∈ tables_1 := mem1 13 rfl
theorem w15 : (Jvm.Cond.fieldLink "XorGaussSat" (17 : Nat) "XorGaussSat" "clausePos" "[I") ∈ tables_1 := mem1 15 rfl
theorem w17 : (Jvm.Cond.fieldLink "XorGaussSat" (20 : Nat) "XorGaussSat" "clauseNeg" "[I") ∈ tables_1 := mem1 17 rfl
theorem w19 : (Jvm.Cond.fieldLink "XorGaussSat" (23 : Nat) "XorGaussSat" "xorMask" "[I") ∈ tables_1 := mem1 19 rfl
theorem w21 : (Jvm.Cond.fieldLink "XorGaussSat" (26 : Nat) "XorGaussSat" "xorRhs" "[I") ∈ tables_1 := mem1 21 rfl
theorem w23 : (Jvm.Cond.fieldLink "XorGaussSat" (29 : Nat) "XorGaussSat" "order" "[I") ∈ tables_1 := mem1 23 rfl
theorem w25 : (Jvm.Cond.fieldLink "XorGaussSat" (32 : Nat) "XorGaussSat" "echMask" "[I") ∈ tables_1 := mem1 25 rfl
theorem w27 : (Jvm.Cond.fieldLink "XorGaussSat" (35 : Nat) "XorGaussSat" "echRhs" "[I") ∈ tables_1 := mem1 27 rfl
theorem w29 : (Jvm.Cond.fieldLink "XorGaussSat" (38 : Nat) "XorGaussSat" "echPivot" "[I") ∈ tables_1 := mem1 29 rfl
theorem w31 : (Jvm.Cond.fieldLink "XorGaussSat" (41 : Nat) "XorGaussSat" "gMask" "[I") ∈ tables_1 := mem1 31 rfl
theorem w33 : (Jvm.Cond.fieldLink "XorGaussSat" (44 : Nat) "XorGaussSat" "gRhs" "[I") ∈ tables_1 := mem1 33 rfl
theorem w35 : (Jvm.Cond.fieldLink "XorGaussSat" (47 : Nat) "XorGaussSat" "gPivot" "[I") ∈ tables_1 := mem1 35 rfl
theorem w37 : (Jvm.Cond.fieldLink "XorGaussSat" (50 : Nat) "XorGaussSat" "trail" "[I") ∈ tables_1 := mem1 37 rfl
theorem w39 : (Jvm.Cond.fieldLink "XorGaussSat" (53 : Nat) "XorGaussSat" "lvlVar" "[I") ∈ tables_1 := mem1 39 rfl
theorem w41 : (Jvm.Cond.fieldLink "XorGaussSat" (56 : Nat) "XorGaussSat" "lvlStart" "[I") ∈ tables_1 := mem1 41 rfl
theorem w43 : (Jvm.Cond.fieldLink "XorGaussSat" (59 : Nat) "XorGaussSat" "lvlFlipped" "[Z") ∈ tables_1 := mem1 43 rfl
theorem w45 : (Jvm.Cond.fieldLink "XorGaussSat" (62 : Nat) "XorGaussSat" "n" "I") ∈ tables_1 := mem1 45 rfl
theorem w46 : (Jvm.Cond.lays "XorGaussSat" "XorGaussSat" "n" "I") ∈ tables_1 := mem1 46 rfl
theorem w47 : (Jvm.Cond.fieldLink "XorGaussSat" (66 : Nat) "XorGaussSat" "fullMask" "I") ∈ tables_1 := mem1 47 rfl
theorem w48 : (Jvm.Cond.lays "XorGaussSat" "XorGaussSat" "fullMask" "I") ∈ tables_1 := mem1 48 rfl
theorem w49 : (Jvm.Cond.fieldLink "XorGaussSat" (69 : Nat) "XorGaussSat" "status" "I") ∈ tables_1 := mem1 49 rfl
theorem w50 : (Jvm.Cond.lays "XorGaussSat" "XorGaussSat" "status" "I") ∈ tables_1 := mem1 50 rfl
theorem w51 : (Jvm.Cond.fieldLink "XorGaussSat" (72 : Nat) "XorGaussSat" "model" "I") ∈ tables_1 := mem1 51 rfl
theorem w52 : (Jvm.Cond.lays "XorGaussSat" "XorGaussSat" "model" "I") ∈ tables_1 := mem1 52 rfl
theorem w53 : (Jvm.Cond.fieldLink "XorGaussSat" (75 : Nat) "XorGaussSat" "pendLen" "I") ∈ tables_1 := mem1 53 rfl
theorem w54 : (Jvm.Cond.lays "XorGaussSat" "XorGaussSat" "pendLen" "I") ∈ tables_1 := mem1 54 rfl
theorem w55 : (Jvm.Cond.fieldLink "XorGaussSat" (78 : Nat) "XorGaussSat" "clauseCnt" "I") ∈ tables_1 := mem1 55 rfl
theorem w56 : (Jvm.Cond.lays "XorGaussSat" "XorGaussSat" "clauseCnt" "I") ∈ tables_1 := mem1 56 rfl
theorem w57 : (Jvm.Cond.fieldLink "XorGaussSat" (81 : Nat) "XorGaussSat" "xorCnt" "I") ∈ tables_1 := mem1 57 rfl
theorem w58 : (Jvm.Cond.lays "XorGaussSat" "XorGaussSat" "xorCnt" "I") ∈ tables_1 := mem1 58 rfl
theorem w59 : (Jvm.Cond.fieldLink "XorGaussSat" (84 : Nat) "XorGaussSat" "orderLen" "I") ∈ tables_1 := mem1 59 rfl
theorem w60 : (Jvm.Cond.lays "XorGaussSat" "XorGaussSat" "orderLen" "I") ∈ tables_1 := mem1 60 rfl
theorem w61 : (Jvm.Cond.fieldLink "XorGaussSat" (87 : Nat) "XorGaussSat" "echValid" "Z") ∈ tables_1 := mem1 61 rfl
theorem w62 : (Jvm.Cond.lays "XorGaussSat" "XorGaussSat" "echValid" "Z") ∈ tables_1 := mem1 62 rfl
theorem w63 : (Jvm.Cond.fieldLink "XorGaussSat" (91 : Nat) "XorGaussSat" "echConsistent" "Z") ∈ tables_1 := mem1 63 rfl
theorem w64 : (Jvm.Cond.lays "XorGaussSat" "XorGaussSat" "echConsistent" "Z") ∈ tables_1 := mem1 64 rfl
theorem w65 : (Jvm.Cond.fieldLink "XorGaussSat" (94 : Nat) "XorGaussSat" "echRank" "I") ∈ tables_1 := mem1 65 rfl
theorem w66 : (Jvm.Cond.lays "XorGaussSat" "XorGaussSat" "echRank" "I") ∈ tables_1 := mem1 66 rfl
theorem w67 : (Jvm.Cond.methodLink "XorGaussSatL2" (12 : Nat) ({ cls := "XorGaussSat", name := "addLiteral", desc := "(IZ)I" } : Jvm.MethodName)) ∈ tables_1 := mem1 67 rfl
theorem w68 : (Jvm.Cond.declares ({ cls := "XorGaussSat", name := "addLiteral", desc := "(IZ)I" } : Jvm.MethodName)) ∈ tables_1 := mem1 68 rfl
theorem w69 : (Jvm.Cond.instanceMethod ({ cls := "XorGaussSat", name := "addLiteral", desc := "(IZ)I" } : Jvm.MethodName)) ∈ tables_1 := mem1 69 rfl
theorem w70 : (Jvm.Cond.selects "XorGaussSat" ({ cls := "XorGaussSat", name := "addLiteral", desc := "(IZ)I" } : Jvm.MethodName) ({ cls := "XorGaussSat", name := "addLiteral", desc := "(IZ)I" } : Jvm.MethodName)) ∈ tables_1 := mem1 70 rfl
theorem w72 : (Jvm.Cond.methodLink "XorGaussSatL2" (16 : Nat) ({ cls := "XorGaussSat", name := "commitClause", desc := "()I" } : Jvm.MethodName)) ∈ tables_1 := mem1 72 rfl
theorem w73 : (Jvm.Cond.declares ({ cls := "XorGaussSat", name := "commitClause", desc := "()I" } : Jvm.MethodName)) ∈ tables_1 := mem1 73 rfl
theorem w74 : (Jvm.Cond.instanceMethod ({ cls := "XorGaussSat", name := "commitClause", desc := "()I" } : Jvm.MethodName)) ∈ tables_1 := mem1 74 rfl
theorem w75 : (Jvm.Cond.selects "XorGaussSat" ({ cls := "XorGaussSat", name := "commitClause", desc := "()I" } : Jvm.MethodName) ({ cls := "XorGaussSat", name := "commitClause", desc := "()I" } : Jvm.MethodName)) ∈ tables_1 := mem1 75 rfl
theorem w77 : (Jvm.Cond.methodLink "XorGaussSat" (97 : Nat) ({ cls := "XorGaussSat", name := "pendingMask", desc := "(Z)I" } : Jvm.MethodName)) ∈ tables_1 := mem1 77 rfl
theorem w78 : (Jvm.Cond.instanceMethod ({ cls := "XorGaussSat", name := "pendingMask", desc := "(Z)I" } : Jvm.MethodName)) ∈ tables_1 := mem1 78 rfl
theorem w79 : (Jvm.Cond.privateMethod ({ cls := "XorGaussSat", name := "pendingMask", desc := "(Z)I" } : Jvm.MethodName)) ∈ tables_1 := mem1 79 rfl
theorem w81 : (Jvm.Cond.methodLink "XorGaussSat" (101 : Nat) ({ cls := "XorGaussSat", name := "pushOrder", desc := "(I)V" } : Jvm.MethodName)) ∈ tables_1 := mem1 81 rfl
theorem w82 : (Jvm.Cond.instanceMethod ({ cls := "XorGaussSat", name := "pushOrder", desc := "(I)V" } : Jvm.MethodName)) ∈ tables_1 := mem1 82 rfl
theorem w83 : (Jvm.Cond.privateMethod ({ cls := "XorGaussSat", name := "pushOrder", desc := "(I)V" } : Jvm.MethodName)) ∈ tables_1 := mem1 83 rfl
theorem w85 : (Jvm.Cond.methodLink "XorGaussSatL2" (20 : Nat) ({ cls := "XorGaussSat", name := "pendingLength", desc := "()I" } : Jvm.MethodName)) ∈ tables_1 := mem1 85 rfl
theorem w86 : (Jvm.Cond.declares ({ cls := "XorGaussSat", name := "pendingLength", desc := "()I" } : Jvm.MethodName)) ∈ tables_1 := mem1 86 rfl
theorem w87 : (Jvm.Cond.instanceMethod ({ cls := "XorGaussSat", name := "pendingLength", desc := "()I" } : Jvm.MethodName)) ∈ tables_1 := mem1 87 rfl
theorem w88 : (Jvm.Cond.selects "XorGaussSat" ({ cls := "XorGaussSat", name := "pendingLength", desc := "()I" } : Jvm.MethodName) ({ cls := "XorGaussSat", name := "pendingLength", desc := "()I" } : Jvm.MethodName)) ∈ tables_1 := mem1 88 rfl
theorem w90 : (Jvm.Cond.methodLink "XorGaussSatL2" (23 : Nat) ({ cls := "XorGaussSat", name := "clauseCount", desc := "()I" } : Jvm.MethodName)) ∈ tables_1 := mem1 90 rfl
theorem w91 : (Jvm.Cond.declares ({ cls := "XorGaussSat", name := "clauseCount", desc := "()I" } : Jvm.MethodName)) ∈ tables_1 := mem1 91 rfl
theorem w92 : (Jvm.Cond.instanceMethod ({ cls := "XorGaussSat", name := "clauseCount", desc := "()I" } : Jvm.MethodName)) ∈ tables_1 := mem1 92 rfl
theorem w93 : (Jvm.Cond.selects "XorGaussSat" ({ cls := "XorGaussSat", name := "clauseCount", desc := "()I" } : Jvm.MethodName) ({ cls := "XorGaussSat", name := "clauseCount", desc := "()I" } : Jvm.MethodName)) ∈ tables_1 := mem1 93 rfl
theorem w95 : (Jvm.Cond.methodLink "XorGaussSatL2" (26 : Nat) ({ cls := "XorGaussSat", name := "violations", desc := "(I)I" } : Jvm.MethodName)) ∈ tables_1 := mem1 95 rfl
theorem w96 : (Jvm.Cond.declares ({ cls := "XorGaussSat", name := "violations", desc := "(I)I" } : Jvm.MethodName)) ∈ tables_1 := mem1 96 rfl
theorem w97 : (Jvm.Cond.instanceMethod ({ cls := "XorGaussSat", name := "violations", desc := "(I)I" } : Jvm.MethodName)) ∈ tables_1 := mem1 97 rfl
theorem w98 : (Jvm.Cond.selects "XorGaussSat" ({ cls := "XorGaussSat", name := "violations", desc := "(I)I" } : Jvm.MethodName) ({ cls := "XorGaussSat", name := "violations", desc := "(I)I" } : Jvm.MethodName)) ∈ tables_1 := mem1 98 rfl
theorem w100 : (Jvm.Cond.methodLink "XorGaussSat" (119 : Nat) ({ cls := "XorGaussSat", name := "clauseHolds", desc := "(II)Z" } : Jvm.MethodName)) ∈ tables_1 := mem1 100 rfl
theorem w101 : (Jvm.Cond.instanceMethod ({ cls := "XorGaussSat", name := "clauseHolds", desc := "(II)Z" } : Jvm.MethodName)) ∈ tables_1 := mem1 101 rfl
theorem w102 : (Jvm.Cond.privateMethod ({ cls := "XorGaussSat", name := "clauseHolds", desc := "(II)Z" } : Jvm.MethodName)) ∈ tables_1 := mem1 102 rfl
theorem w104 : (Jvm.Cond.methodLink "XorGaussSatL2" (30 : Nat) ({ cls := "XorGaussSat", name := "popConstraint", desc := "()I" } : Jvm.MethodName)) ∈ tables_1 := mem1 104 rfl
theorem w105 : (Jvm.Cond.declares ({ cls := "XorGaussSat", name := "popConstraint", desc := "()I" } : Jvm.MethodName)) ∈ tables_1 := mem1 105 rfl
theorem w106 : (Jvm.Cond.instanceMethod ({ cls := "XorGaussSat", name := "popConstraint", desc := "()I" } : Jvm.MethodName)) ∈ tables_1 := mem1 106 rfl
theorem w107 : (Jvm.Cond.selects "XorGaussSat" ({ cls := "XorGaussSat", name := "popConstraint", desc := "()I" } : Jvm.MethodName) ({ cls := "XorGaussSat", name := "popConstraint", desc := "()I" } : Jvm.MethodName)) ∈ tables_1 := mem1 107 rfl
theorem w109 : (Jvm.Cond.methodLink "XorGaussSatL2" (33 : Nat) ({ cls := "XorGaussSat", name := "status", desc := "()I" } : Jvm.MethodName)) ∈ tables_1 := mem1 109 rfl
theorem w110 : (Jvm.Cond.declares ({ cls := "XorGaussSat", name := "status", desc := "()I" } : Jvm.MethodName)) ∈ tables_1 := mem1 110 rfl
theorem w111 : (Jvm.Cond.instanceMethod ({ cls := "XorGaussSat", name := "status", desc := "()I" } : Jvm.MethodName)) ∈ tables_1 := mem1 111 rfl
theorem w112 : (Jvm.Cond.selects "XorGaussSat" ({ cls := "XorGaussSat", name := "status", desc := "()I" } : Jvm.MethodName) ({ cls := "XorGaussSat", name := "status", desc := "()I" } : Jvm.MethodName)) ∈ tables_1 := mem1 112 rfl
theorem fS_0 : K.2.1[0]? = some ("n", "I") := rfl
theorem fS_1 : K.2.1[1]? = some ("fullMask", "I") := rfl
theorem fS_2 : K.2.1[2]? = some ("status", "I") := rfl
theorem fS_3 : K.2.1[3]? = some ("model", "I") := rfl
theorem fS_4 : K.2.1[4]? = some ("pendLen", "I") := rfl
theorem fS_5 : K.2.1[5]? = some ("clauseCnt", "I") := rfl
theorem fS_6 : K.2.1[6]? = some ("xorCnt", "I") := rfl
theorem fS_7 : K.2.1[7]? = some ("orderLen", "I") := rfl
theorem fS_8 : K.2.1[8]? = some ("echRank", "I") := rfl
theorem fS_9 : K.2.1[9]? = some ("echConsistent", "Z") := rfl
theorem fS_10 : K.2.1[10]? = some ("echValid", "Z") := rfl
theorem fA_0 : K.2.2[0]? = some ("pendVar", .int, (8 : Int32)) := rfl
theorem fA_1 : K.2.2[1]? = some ("pendNeg", .boolean, (8 : Int32)) := rfl
theorem fA_2 : K.2.2[2]? = some ("clausePos", .int, (24 : Int32)) := rfl
theorem fA_3 : K.2.2[3]? = some ("clauseNeg", .int, (24 : Int32)) := rfl
theorem fA_4 : K.2.2[4]? = some ("xorMask", .int, (16 : Int32)) := rfl
theorem fA_5 : K.2.2[5]? = some ("xorRhs", .int, (16 : Int32)) := rfl
theorem fA_6 : K.2.2[6]? = some ("order", .int, (40 : Int32)) := rfl
theorem fA_7 : K.2.2[7]? = some ("echMask", .int, (16 : Int32)) := rfl
theorem fA_8 : K.2.2[8]? = some ("echRhs", .int, (16 : Int32)) := rfl
theorem fA_9 : K.2.2[9]? = some ("echPivot", .int, (16 : Int32)) := rfl
theorem fA_10 : K.2.2[10]? = some ("gMask", .int, (16 : Int32)) := rfl
theorem fA_11 : K.2.2[11]? = some ("gRhs", .int, (16 : Int32)) := rfl
theorem fA_12 : K.2.2[12]? = some ("gPivot", .int, (16 : Int32)) := rfl
theorem fA_13 : K.2.2[13]? = some ("trail", .int, (12 : Int32)) := rfl
theorem fA_14 : K.2.2[14]? = some ("lvlVar", .int, (13 : Int32)) := rfl
theorem fA_15 : K.2.2[15]? = some ("lvlStart", .int, (13 : Int32)) := rfl
theorem fA_16 : K.2.2[16]? = some ("lvlFlipped", .boolean, (13 : Int32)) := rfl
theorem cb_m3 : (Int8.ofInt (-3)).toInt32 = (-3 : Int32) := by decide
theorem cb_m2 : (Int8.ofInt (-2)).toInt32 = (-2 : Int32) := by decide
theorem cb_8 : (Int8.ofInt 8).toInt32 = (8 : Int32) := by decide
theorem cb_12 : (Int8.ofInt 12).toInt32 = (12 : Int32) := by decide
theorem cb_13 : (Int8.ofInt 13).toInt32 = (13 : Int32) := by decide
theorem cb_16 : (Int8.ofInt 16).toInt32 = (16 : Int32) := by decide
theorem cb_24 : (Int8.ofInt 24).toInt32 = (24 : Int32) := by decide
theorem cb_40 : (Int8.ofInt 40).toInt32 = (40 : Int32) := by decide
theorem ci_m1 : Int32.ofInt (-1) = (-1 : Int32) := by decide
theorem ci_0 : Int32.ofInt 0 = (0 : Int32) := by decide
theorem ci_1 : Int32.ofInt 1 = (1 : Int32) := by decide
theorem ci_2 : Int32.ofInt 2 = (2 : Int32) := by decide
def B1 : Bdy := ((⟨"XorGaussSat", "<init>", "(I)V"⟩ : MethodName), prog_1_method_1_code, 3, none, ({ frames := 1, cells := 17, slots := 283, locals := 12 } : Room))
theorem d1_0 : DAt B1 0 (.aload_n 0) 1 1 := ⟨by decide +kernel, rfl⟩
theorem d1_1 : DAt B1 1 (.invokespecial 1) 3 4 := ⟨by decide +kernel, rfl⟩
theorem d1_4 : DAt B1 4 (.aload_n 0) 1 5 := ⟨by decide +kernel, rfl⟩
theorem d1_5 : DAt B1 5 (.bipush 8) 2 7 := ⟨by decide +kernel, rfl⟩
theorem d1_7 : DAt B1 7 (.newarray .int) 2 9 := ⟨by decide +kernel, rfl⟩
theorem d1_9 : DAt B1 9 (.putfield 7) 3 12 := ⟨by decide +kernel, rfl⟩
theorem d1_12 : DAt B1 12 (.aload_n 0) 1 13 := ⟨by decide +kernel, rfl⟩
theorem d1_13 : DAt B1 13 (.bipush 8) 2 15 := ⟨by decide +kernel, rfl⟩
theorem d1_15 : DAt B1 15 (.newarray .boolean) 2 17 := ⟨by decide +kernel, rfl⟩
theorem d1_17 : DAt B1 17 (.putfield 13) 3 20 := ⟨by decide +kernel, rfl⟩
theorem d1_20 : DAt B1 20 (.aload_n 0) 1 21 := ⟨by decide +kernel, rfl⟩
theorem d1_21 : DAt B1 21 (.bipush 24) 2 23 := ⟨by decide +kernel, rfl⟩
theorem d1_23 : DAt B1 23 (.newarray .int) 2 25 := ⟨by decide +kernel, rfl⟩
theorem d1_25 : DAt B1 25 (.putfield 17) 3 28 := ⟨by decide +kernel, rfl⟩
theorem d1_28 : DAt B1 28 (.aload_n 0) 1 29 := ⟨by decide +kernel, rfl⟩
theorem d1_29 : DAt B1 29 (.bipush 24) 2 31 := ⟨by decide +kernel, rfl⟩
theorem d1_31 : DAt B1 31 (.newarray .int) 2 33 := ⟨by decide +kernel, rfl⟩
theorem d1_33 : DAt B1 33 (.putfield 20) 3 36 := ⟨by decide +kernel, rfl⟩
theorem d1_36 : DAt B1 36 (.aload_n 0) 1 37 := ⟨by decide +kernel, rfl⟩
theorem d1_37 : DAt B1 37 (.bipush 16) 2 39 := ⟨by decide +kernel, rfl⟩
theorem d1_39 : DAt B1 39 (.newarray .int) 2 41 := ⟨by decide +kernel, rfl⟩
theorem d1_41 : DAt B1 41 (.putfield 23) 3 44 := ⟨by decide +kernel, rfl⟩
theorem d1_44 : DAt B1 44 (.aload_n 0) 1 45 := ⟨by decide +kernel, rfl⟩
theorem d1_45 : DAt B1 45 (.bipush 16) 2 47 := ⟨by decide +kernel, rfl⟩
theorem d1_47 : DAt B1 47 (.newarray .int) 2 49 := ⟨by decide +kernel, rfl⟩
theorem d1_49 : DAt B1 49 (.putfield 26) 3 52 := ⟨by decide +kernel, rfl⟩
theorem d1_52 : DAt B1 52 (.aload_n 0) 1 53 := ⟨by decide +kernel, rfl⟩
theorem d1_53 : DAt B1 53 (.bipush 40) 2 55 := ⟨by decide +kernel, rfl⟩
theorem d1_55 : DAt B1 55 (.newarray .int) 2 57 := ⟨by decide +kernel, rfl⟩
theorem d1_57 : DAt B1 57 (.putfield 29) 3 60 := ⟨by decide +kernel, rfl⟩
theorem d1_60 : DAt B1 60 (.aload_n 0) 1 61 := ⟨by decide +kernel, rfl⟩
theorem d1_61 : DAt B1 61 (.bipush 16) 2 63 := ⟨by decide +kernel, rfl⟩
theorem d1_63 : DAt B1 63 (.newarray .int) 2 65 := ⟨by decide +kernel, rfl⟩
theorem d1_65 : DAt B1 65 (.putfield 32) 3 68 := ⟨by decide +kernel, rfl⟩
theorem d1_68 : DAt B1 68 (.aload_n 0) 1 69 := ⟨by decide +kernel, rfl⟩
theorem d1_69 : DAt B1 69 (.bipush 16) 2 71 := ⟨by decide +kernel, rfl⟩
theorem d1_71 : DAt B1 71 (.newarray .int) 2 73 := ⟨by decide +kernel, rfl⟩
theorem d1_73 : DAt B1 73 (.putfield 35) 3 76 := ⟨by decide +kernel, rfl⟩
theorem d1_76 : DAt B1 76 (.aload_n 0) 1 77 := ⟨by decide +kernel, rfl⟩
theorem d1_77 : DAt B1 77 (.bipush 16) 2 79 := ⟨by decide +kernel, rfl⟩
theorem d1_79 : DAt B1 79 (.newarray .int) 2 81 := ⟨by decide +kernel, rfl⟩
theorem d1_81 : DAt B1 81 (.putfield 38) 3 84 := ⟨by decide +kernel, rfl⟩
theorem d1_84 : DAt B1 84 (.aload_n 0) 1 85 := ⟨by decide +kernel, rfl⟩
theorem d1_85 : DAt B1 85 (.bipush 16) 2 87 := ⟨by decide +kernel, rfl⟩
theorem d1_87 : DAt B1 87 (.newarray .int) 2 89 := ⟨by decide +kernel, rfl⟩
theorem d1_89 : DAt B1 89 (.putfield 41) 3 92 := ⟨by decide +kernel, rfl⟩
theorem d1_92 : DAt B1 92 (.aload_n 0) 1 93 := ⟨by decide +kernel, rfl⟩
theorem d1_93 : DAt B1 93 (.bipush 16) 2 95 := ⟨by decide +kernel, rfl⟩
theorem d1_95 : DAt B1 95 (.newarray .int) 2 97 := ⟨by decide +kernel, rfl⟩
theorem d1_97 : DAt B1 97 (.putfield 44) 3 100 := ⟨by decide +kernel, rfl⟩
theorem d1_100 : DAt B1 100 (.aload_n 0) 1 101 := ⟨by decide +kernel, rfl⟩
theorem d1_101 : DAt B1 101 (.bipush 16) 2 103 := ⟨by decide +kernel, rfl⟩
theorem d1_103 : DAt B1 103 (.newarray .int) 2 105 := ⟨by decide +kernel, rfl⟩
theorem d1_105 : DAt B1 105 (.putfield 47) 3 108 := ⟨by decide +kernel, rfl⟩
theorem d1_108 : DAt B1 108 (.aload_n 0) 1 109 := ⟨by decide +kernel, rfl⟩
theorem d1_109 : DAt B1 109 (.bipush 12) 2 111 := ⟨by decide +kernel, rfl⟩
theorem d1_111 : DAt B1 111 (.newarray .int) 2 113 := ⟨by decide +kernel, rfl⟩
theorem d1_113 : DAt B1 113 (.putfield 50) 3 116 := ⟨by decide +kernel, rfl⟩
theorem d1_116 : DAt B1 116 (.aload_n 0) 1 117 := ⟨by decide +kernel, rfl⟩
theorem d1_117 : DAt B1 117 (.bipush 13) 2 119 := ⟨by decide +kernel, rfl⟩
theorem d1_119 : DAt B1 119 (.newarray .int) 2 121 := ⟨by decide +kernel, rfl⟩
theorem d1_121 : DAt B1 121 (.putfield 53) 3 124 := ⟨by decide +kernel, rfl⟩
theorem d1_124 : DAt B1 124 (.aload_n 0) 1 125 := ⟨by decide +kernel, rfl⟩
theorem d1_125 : DAt B1 125 (.bipush 13) 2 127 := ⟨by decide +kernel, rfl⟩
theorem d1_127 : DAt B1 127 (.newarray .int) 2 129 := ⟨by decide +kernel, rfl⟩
theorem d1_129 : DAt B1 129 (.putfield 56) 3 132 := ⟨by decide +kernel, rfl⟩
theorem d1_132 : DAt B1 132 (.aload_n 0) 1 133 := ⟨by decide +kernel, rfl⟩
theorem d1_133 : DAt B1 133 (.bipush 13) 2 135 := ⟨by decide +kernel, rfl⟩
theorem d1_135 : DAt B1 135 (.newarray .boolean) 2 137 := ⟨by decide +kernel, rfl⟩
theorem d1_137 : DAt B1 137 (.putfield 59) 3 140 := ⟨by decide +kernel, rfl⟩
theorem d1_140 : DAt B1 140 (.iload_n 1) 1 141 := ⟨by decide +kernel, rfl⟩
theorem d1_141 : DAt B1 141 (.istore_n 2) 1 142 := ⟨by decide +kernel, rfl⟩
theorem d1_142 : DAt B1 142 (.iload_n 2) 1 143 := ⟨by decide +kernel, rfl⟩
theorem d1_143 : DAt B1 143 (.iconst 1) 1 144 := ⟨by decide +kernel, rfl⟩
theorem d1_144 : DAt B1 144 (.if_icmp .ge 5) 3 147 := ⟨by decide +kernel, rfl⟩
theorem d1_147 : DAt B1 147 (.iconst 1) 1 148 := ⟨by decide +kernel, rfl⟩
theorem d1_148 : DAt B1 148 (.istore_n 2) 1 149 := ⟨by decide +kernel, rfl⟩
theorem d1_149 : DAt B1 149 (.iload_n 2) 1 150 := ⟨by decide +kernel, rfl⟩
theorem d1_150 : DAt B1 150 (.bipush 12) 2 152 := ⟨by decide +kernel, rfl⟩
theorem d1_152 : DAt B1 152 (.if_icmp .le 6) 3 155 := ⟨by decide +kernel, rfl⟩
theorem d1_155 : DAt B1 155 (.bipush 12) 2 157 := ⟨by decide +kernel, rfl⟩
theorem d1_157 : DAt B1 157 (.istore_n 2) 1 158 := ⟨by decide +kernel, rfl⟩
theorem d1_158 : DAt B1 158 (.aload_n 0) 1 159 := ⟨by decide +kernel, rfl⟩
theorem d1_159 : DAt B1 159 (.iload_n 2) 1 160 := ⟨by decide +kernel, rfl⟩
theorem d1_160 : DAt B1 160 (.putfield 62) 3 163 := ⟨by decide +kernel, rfl⟩
theorem d1_163 : DAt B1 163 (.aload_n 0) 1 164 := ⟨by decide +kernel, rfl⟩
theorem d1_164 : DAt B1 164 (.iconst 1) 1 165 := ⟨by decide +kernel, rfl⟩
theorem d1_165 : DAt B1 165 (.iload_n 2) 1 166 := ⟨by decide +kernel, rfl⟩
theorem d1_166 : DAt B1 166 (.ishl) 1 167 := ⟨by decide +kernel, rfl⟩
theorem d1_167 : DAt B1 167 (.iconst 1) 1 168 := ⟨by decide +kernel, rfl⟩
theorem d1_168 : DAt B1 168 (.isub) 1 169 := ⟨by decide +kernel, rfl⟩
theorem d1_169 : DAt B1 169 (.putfield 66) 3 172 := ⟨by decide +kernel, rfl⟩
theorem d1_172 : DAt B1 172 (.aload_n 0) 1 173 := ⟨by decide +kernel, rfl⟩
theorem d1_173 : DAt B1 173 (.iconst 2) 1 174 := ⟨by decide +kernel, rfl⟩
theorem d1_174 : DAt B1 174 (.putfield 69) 3 177 := ⟨by decide +kernel, rfl⟩
theorem d1_177 : DAt B1 177 (.aload_n 0) 1 178 := ⟨by decide +kernel, rfl⟩
theorem d1_178 : DAt B1 178 (.iconst 0) 1 179 := ⟨by decide +kernel, rfl⟩
theorem d1_179 : DAt B1 179 (.putfield 72) 3 182 := ⟨by decide +kernel, rfl⟩
theorem d1_182 : DAt B1 182 (.aload_n 0) 1 183 := ⟨by decide +kernel, rfl⟩
theorem d1_183 : DAt B1 183 (.iconst 0) 1 184 := ⟨by decide +kernel, rfl⟩
theorem d1_184 : DAt B1 184 (.putfield 75) 3 187 := ⟨by decide +kernel, rfl⟩
theorem d1_187 : DAt B1 187 (.aload_n 0) 1 188 := ⟨by decide +kernel, rfl⟩
theorem d1_188 : DAt B1 188 (.iconst 0) 1 189 := ⟨by decide +kernel, rfl⟩
theorem d1_189 : DAt B1 189 (.putfield 78) 3 192 := ⟨by decide +kernel, rfl⟩
theorem d1_192 : DAt B1 192 (.aload_n 0) 1 193 := ⟨by decide +kernel, rfl⟩
theorem d1_193 : DAt B1 193 (.iconst 0) 1 194 := ⟨by decide +kernel, rfl⟩
theorem d1_194 : DAt B1 194 (.putfield 81) 3 197 := ⟨by decide +kernel, rfl⟩
theorem d1_197 : DAt B1 197 (.aload_n 0) 1 198 := ⟨by decide +kernel, rfl⟩
theorem d1_198 : DAt B1 198 (.iconst 0) 1 199 := ⟨by decide +kernel, rfl⟩
theorem d1_199 : DAt B1 199 (.putfield 84) 3 202 := ⟨by decide +kernel, rfl⟩
theorem d1_202 : DAt B1 202 (.aload_n 0) 1 203 := ⟨by decide +kernel, rfl⟩
theorem d1_203 : DAt B1 203 (.iconst 0) 1 204 := ⟨by decide +kernel, rfl⟩
theorem d1_204 : DAt B1 204 (.putfield 87) 3 207 := ⟨by decide +kernel, rfl⟩
theorem d1_207 : DAt B1 207 (.aload_n 0) 1 208 := ⟨by decide +kernel, rfl⟩
theorem d1_208 : DAt B1 208 (.iconst 1) 1 209 := ⟨by decide +kernel, rfl⟩
theorem d1_209 : DAt B1 209 (.putfield 91) 3 212 := ⟨by decide +kernel, rfl⟩
theorem d1_212 : DAt B1 212 (.aload_n 0) 1 213 := ⟨by decide +kernel, rfl⟩
theorem d1_213 : DAt B1 213 (.iconst 0) 1 214 := ⟨by decide +kernel, rfl⟩
theorem d1_214 : DAt B1 214 (.putfield 94) 3 217 := ⟨by decide +kernel, rfl⟩
theorem d1_217 : DAt B1 217 (.return_) 1 218 := ⟨by decide +kernel, rfl⟩
def B2 : Bdy := ((⟨"XorGaussSat", "addLiteral", "(IZ)I"⟩ : MethodName), prog_1_method_3_code, 3, (some .int), ({ frames := 0, cells := 0, slots := 0, locals := 0 } : Room))
theorem d2_0 : DAt B2 0 (.iload_n 1) 1 1 := ⟨by decide +kernel, rfl⟩
theorem d2_1 : DAt B2 1 (.ifCond .lt 11) 3 4 := ⟨by decide +kernel, rfl⟩
theorem d2_4 : DAt B2 4 (.iload_n 1) 1 5 := ⟨by decide +kernel, rfl⟩
theorem d2_5 : DAt B2 5 (.aload_n 0) 1 6 := ⟨by decide +kernel, rfl⟩
theorem d2_6 : DAt B2 6 (.getfield 62) 3 9 := ⟨by decide +kernel, rfl⟩
theorem d2_9 : DAt B2 9 (.if_icmp .lt 5) 3 12 := ⟨by decide +kernel, rfl⟩
theorem d2_12 : DAt B2 12 (.iconst (-1)) 1 13 := ⟨by decide +kernel, rfl⟩
theorem d2_13 : DAt B2 13 (.ireturn) 1 14 := ⟨by decide +kernel, rfl⟩
theorem d2_14 : DAt B2 14 (.aload_n 0) 1 15 := ⟨by decide +kernel, rfl⟩
theorem d2_15 : DAt B2 15 (.getfield 75) 3 18 := ⟨by decide +kernel, rfl⟩
theorem d2_18 : DAt B2 18 (.bipush 8) 2 20 := ⟨by decide +kernel, rfl⟩
theorem d2_20 : DAt B2 20 (.if_icmp .lt 6) 3 23 := ⟨by decide +kernel, rfl⟩
theorem d2_23 : DAt B2 23 (.bipush (-2)) 2 25 := ⟨by decide +kernel, rfl⟩
theorem d2_25 : DAt B2 25 (.ireturn) 1 26 := ⟨by decide +kernel, rfl⟩
theorem d2_26 : DAt B2 26 (.aload_n 0) 1 27 := ⟨by decide +kernel, rfl⟩
theorem d2_27 : DAt B2 27 (.getfield 7) 3 30 := ⟨by decide +kernel, rfl⟩
theorem d2_30 : DAt B2 30 (.aload_n 0) 1 31 := ⟨by decide +kernel, rfl⟩
theorem d2_31 : DAt B2 31 (.getfield 75) 3 34 := ⟨by decide +kernel, rfl⟩
theorem d2_34 : DAt B2 34 (.iload_n 1) 1 35 := ⟨by decide +kernel, rfl⟩
theorem d2_35 : DAt B2 35 (.iastore) 1 36 := ⟨by decide +kernel, rfl⟩
theorem d2_36 : DAt B2 36 (.aload_n 0) 1 37 := ⟨by decide +kernel, rfl⟩
theorem d2_37 : DAt B2 37 (.getfield 13) 3 40 := ⟨by decide +kernel, rfl⟩
theorem d2_40 : DAt B2 40 (.aload_n 0) 1 41 := ⟨by decide +kernel, rfl⟩
theorem d2_41 : DAt B2 41 (.getfield 75) 3 44 := ⟨by decide +kernel, rfl⟩
theorem d2_44 : DAt B2 44 (.iload_n 2) 1 45 := ⟨by decide +kernel, rfl⟩
theorem d2_45 : DAt B2 45 (.bastore) 1 46 := ⟨by decide +kernel, rfl⟩
theorem d2_46 : DAt B2 46 (.aload_n 0) 1 47 := ⟨by decide +kernel, rfl⟩
theorem d2_47 : DAt B2 47 (.dup) 1 48 := ⟨by decide +kernel, rfl⟩
theorem d2_48 : DAt B2 48 (.getfield 75) 3 51 := ⟨by decide +kernel, rfl⟩
theorem d2_51 : DAt B2 51 (.iconst 1) 1 52 := ⟨by decide +kernel, rfl⟩
theorem d2_52 : DAt B2 52 (.iadd) 1 53 := ⟨by decide +kernel, rfl⟩
theorem d2_53 : DAt B2 53 (.putfield 75) 3 56 := ⟨by decide +kernel, rfl⟩
theorem d2_56 : DAt B2 56 (.aload_n 0) 1 57 := ⟨by decide +kernel, rfl⟩
theorem d2_57 : DAt B2 57 (.getfield 75) 3 60 := ⟨by decide +kernel, rfl⟩
theorem d2_60 : DAt B2 60 (.ireturn) 1 61 := ⟨by decide +kernel, rfl⟩
def B4 : Bdy := ((⟨"XorGaussSat", "pendingMask", "(Z)I"⟩ : MethodName), prog_1_method_18_code, 4, (some .int), ({ frames := 0, cells := 0, slots := 0, locals := 0 } : Room))
theorem d4_0 : DAt B4 0 (.iconst 0) 1 1 := ⟨by decide +kernel, rfl⟩
theorem d4_1 : DAt B4 1 (.istore_n 2) 1 2 := ⟨by decide +kernel, rfl⟩
theorem d4_2 : DAt B4 2 (.iconst 0) 1 3 := ⟨by decide +kernel, rfl⟩
theorem d4_3 : DAt B4 3 (.istore_n 3) 1 4 := ⟨by decide +kernel, rfl⟩
theorem d4_4 : DAt B4 4 (.iload_n 3) 1 5 := ⟨by decide +kernel, rfl⟩
theorem d4_5 : DAt B4 5 (.aload_n 0) 1 6 := ⟨by decide +kernel, rfl⟩
theorem d4_6 : DAt B4 6 (.getfield 75) 3 9 := ⟨by decide +kernel, rfl⟩
theorem d4_9 : DAt B4 9 (.if_icmp .ge 36) 3 12 := ⟨by decide +kernel, rfl⟩
theorem d4_12 : DAt B4 12 (.iload_n 3) 1 13 := ⟨by decide +kernel, rfl⟩
theorem d4_13 : DAt B4 13 (.bipush 8) 2 15 := ⟨by decide +kernel, rfl⟩
theorem d4_15 : DAt B4 15 (.if_icmp .ge 30) 3 18 := ⟨by decide +kernel, rfl⟩
theorem d4_18 : DAt B4 18 (.aload_n 0) 1 19 := ⟨by decide +kernel, rfl⟩
theorem d4_19 : DAt B4 19 (.getfield 13) 3 22 := ⟨by decide +kernel, rfl⟩
theorem d4_22 : DAt B4 22 (.iload_n 3) 1 23 := ⟨by decide +kernel, rfl⟩
theorem d4_23 : DAt B4 23 (.baload) 1 24 := ⟨by decide +kernel, rfl⟩
theorem d4_24 : DAt B4 24 (.iload_n 1) 1 25 := ⟨by decide +kernel, rfl⟩
theorem d4_25 : DAt B4 25 (.if_icmp .ne 14) 3 28 := ⟨by decide +kernel, rfl⟩
theorem d4_28 : DAt B4 28 (.iload_n 2) 1 29 := ⟨by decide +kernel, rfl⟩
theorem d4_29 : DAt B4 29 (.iconst 1) 1 30 := ⟨by decide +kernel, rfl⟩
theorem d4_30 : DAt B4 30 (.aload_n 0) 1 31 := ⟨by decide +kernel, rfl⟩
theorem d4_31 : DAt B4 31 (.getfield 7) 3 34 := ⟨by decide +kernel, rfl⟩
theorem d4_34 : DAt B4 34 (.iload_n 3) 1 35 := ⟨by decide +kernel, rfl⟩
theorem d4_35 : DAt B4 35 (.iaload) 1 36 := ⟨by decide +kernel, rfl⟩
theorem d4_36 : DAt B4 36 (.ishl) 1 37 := ⟨by decide +kernel, rfl⟩
theorem d4_37 : DAt B4 37 (.ior) 1 38 := ⟨by decide +kernel, rfl⟩
theorem d4_38 : DAt B4 38 (.istore_n 2) 1 39 := ⟨by decide +kernel, rfl⟩
theorem d4_39 : DAt B4 39 (.iinc 3 1) 3 42 := ⟨by decide +kernel, rfl⟩
theorem d4_42 : DAt B4 42 (.goto (-38)) 3 45 := ⟨by decide +kernel, rfl⟩
theorem d4_45 : DAt B4 45 (.iload_n 2) 1 46 := ⟨by decide +kernel, rfl⟩
theorem d4_46 : DAt B4 46 (.aload_n 0) 1 47 := ⟨by decide +kernel, rfl⟩
theorem d4_47 : DAt B4 47 (.getfield 66) 3 50 := ⟨by decide +kernel, rfl⟩
theorem d4_50 : DAt B4 50 (.iand) 1 51 := ⟨by decide +kernel, rfl⟩
theorem d4_51 : DAt B4 51 (.ireturn) 1 52 := ⟨by decide +kernel, rfl⟩
def B5 : Bdy := ((⟨"XorGaussSat", "pushOrder", "(I)V"⟩ : MethodName), prog_1_method_21_code, 2, none, ({ frames := 0, cells := 0, slots := 0, locals := 0 } : Room))
theorem d5_0 : DAt B5 0 (.aload_n 0) 1 1 := ⟨by decide +kernel, rfl⟩
theorem d5_1 : DAt B5 1 (.getfield 84) 3 4 := ⟨by decide +kernel, rfl⟩
theorem d5_4 : DAt B5 4 (.ifCond .lt 12) 3 7 := ⟨by decide +kernel, rfl⟩
theorem d5_7 : DAt B5 7 (.aload_n 0) 1 8 := ⟨by decide +kernel, rfl⟩
theorem d5_8 : DAt B5 8 (.getfield 84) 3 11 := ⟨by decide +kernel, rfl⟩
theorem d5_11 : DAt B5 11 (.bipush 40) 2 13 := ⟨by decide +kernel, rfl⟩
theorem d5_13 : DAt B5 13 (.if_icmp .lt 4) 3 16 := ⟨by decide +kernel, rfl⟩
theorem d5_16 : DAt B5 16 (.return_) 1 17 := ⟨by decide +kernel, rfl⟩
theorem d5_17 : DAt B5 17 (.aload_n 0) 1 18 := ⟨by decide +kernel, rfl⟩
theorem d5_18 : DAt B5 18 (.getfield 29) 3 21 := ⟨by decide +kernel, rfl⟩
theorem d5_21 : DAt B5 21 (.aload_n 0) 1 22 := ⟨by decide +kernel, rfl⟩
theorem d5_22 : DAt B5 22 (.getfield 84) 3 25 := ⟨by decide +kernel, rfl⟩
theorem d5_25 : DAt B5 25 (.iload_n 1) 1 26 := ⟨by decide +kernel, rfl⟩
theorem d5_26 : DAt B5 26 (.iastore) 1 27 := ⟨by decide +kernel, rfl⟩
theorem d5_27 : DAt B5 27 (.aload_n 0) 1 28 := ⟨by decide +kernel, rfl⟩
theorem d5_28 : DAt B5 28 (.dup) 1 29 := ⟨by decide +kernel, rfl⟩
theorem d5_29 : DAt B5 29 (.getfield 84) 3 32 := ⟨by decide +kernel, rfl⟩
theorem d5_32 : DAt B5 32 (.iconst 1) 1 33 := ⟨by decide +kernel, rfl⟩
theorem d5_33 : DAt B5 33 (.iadd) 1 34 := ⟨by decide +kernel, rfl⟩
theorem d5_34 : DAt B5 34 (.putfield 84) 3 37 := ⟨by decide +kernel, rfl⟩
theorem d5_37 : DAt B5 37 (.return_) 1 38 := ⟨by decide +kernel, rfl⟩
def B3 : Bdy := ((⟨"XorGaussSat", "commitClause", "()I"⟩ : MethodName), prog_1_method_6_code, 2, (some .int), ({ frames := 1, cells := 0, slots := 0, locals := 17 } : Room))
theorem d3_0 : DAt B3 0 (.aload_n 0) 1 1 := ⟨by decide +kernel, rfl⟩
theorem d3_1 : DAt B3 1 (.getfield 78) 3 4 := ⟨by decide +kernel, rfl⟩
theorem d3_4 : DAt B3 4 (.bipush 24) 2 6 := ⟨by decide +kernel, rfl⟩
theorem d3_6 : DAt B3 6 (.if_icmp .lt 6) 3 9 := ⟨by decide +kernel, rfl⟩
theorem d3_9 : DAt B3 9 (.bipush (-2)) 2 11 := ⟨by decide +kernel, rfl⟩
theorem d3_11 : DAt B3 11 (.ireturn) 1 12 := ⟨by decide +kernel, rfl⟩
theorem d3_12 : DAt B3 12 (.aload_n 0) 1 13 := ⟨by decide +kernel, rfl⟩
theorem d3_13 : DAt B3 13 (.getfield 84) 3 16 := ⟨by decide +kernel, rfl⟩
theorem d3_16 : DAt B3 16 (.bipush 40) 2 18 := ⟨by decide +kernel, rfl⟩
theorem d3_18 : DAt B3 18 (.if_icmp .lt 6) 3 21 := ⟨by decide +kernel, rfl⟩
theorem d3_21 : DAt B3 21 (.bipush (-2)) 2 23 := ⟨by decide +kernel, rfl⟩
theorem d3_23 : DAt B3 23 (.ireturn) 1 24 := ⟨by decide +kernel, rfl⟩
theorem d3_24 : DAt B3 24 (.aload_n 0) 1 25 := ⟨by decide +kernel, rfl⟩
theorem d3_25 : DAt B3 25 (.getfield 78) 3 28 := ⟨by decide +kernel, rfl⟩
theorem d3_28 : DAt B3 28 (.istore_n 1) 1 29 := ⟨by decide +kernel, rfl⟩
theorem d3_29 : DAt B3 29 (.aload_n 0) 1 30 := ⟨by decide +kernel, rfl⟩
theorem d3_30 : DAt B3 30 (.getfield 17) 3 33 := ⟨by decide +kernel, rfl⟩
theorem d3_33 : DAt B3 33 (.iload_n 1) 1 34 := ⟨by decide +kernel, rfl⟩
theorem d3_34 : DAt B3 34 (.aload_n 0) 1 35 := ⟨by decide +kernel, rfl⟩
theorem d3_35 : DAt B3 35 (.iconst 0) 1 36 := ⟨by decide +kernel, rfl⟩
theorem d3_36 : DAt B3 36 (.invokevirtual 97) 3 39 := ⟨by decide +kernel, rfl⟩
theorem d3_39 : DAt B3 39 (.iastore) 1 40 := ⟨by decide +kernel, rfl⟩
theorem d3_40 : DAt B3 40 (.aload_n 0) 1 41 := ⟨by decide +kernel, rfl⟩
theorem d3_41 : DAt B3 41 (.getfield 20) 3 44 := ⟨by decide +kernel, rfl⟩
theorem d3_44 : DAt B3 44 (.iload_n 1) 1 45 := ⟨by decide +kernel, rfl⟩
theorem d3_45 : DAt B3 45 (.aload_n 0) 1 46 := ⟨by decide +kernel, rfl⟩
theorem d3_46 : DAt B3 46 (.iconst 1) 1 47 := ⟨by decide +kernel, rfl⟩
theorem d3_47 : DAt B3 47 (.invokevirtual 97) 3 50 := ⟨by decide +kernel, rfl⟩
theorem d3_50 : DAt B3 50 (.iastore) 1 51 := ⟨by decide +kernel, rfl⟩
theorem d3_51 : DAt B3 51 (.aload_n 0) 1 52 := ⟨by decide +kernel, rfl⟩
theorem d3_52 : DAt B3 52 (.dup) 1 53 := ⟨by decide +kernel, rfl⟩
theorem d3_53 : DAt B3 53 (.getfield 78) 3 56 := ⟨by decide +kernel, rfl⟩
theorem d3_56 : DAt B3 56 (.iconst 1) 1 57 := ⟨by decide +kernel, rfl⟩
theorem d3_57 : DAt B3 57 (.iadd) 1 58 := ⟨by decide +kernel, rfl⟩
theorem d3_58 : DAt B3 58 (.putfield 78) 3 61 := ⟨by decide +kernel, rfl⟩
theorem d3_61 : DAt B3 61 (.aload_n 0) 1 62 := ⟨by decide +kernel, rfl⟩
theorem d3_62 : DAt B3 62 (.iconst 1) 1 63 := ⟨by decide +kernel, rfl⟩
theorem d3_63 : DAt B3 63 (.invokevirtual 101) 3 66 := ⟨by decide +kernel, rfl⟩
theorem d3_66 : DAt B3 66 (.aload_n 0) 1 67 := ⟨by decide +kernel, rfl⟩
theorem d3_67 : DAt B3 67 (.iconst 0) 1 68 := ⟨by decide +kernel, rfl⟩
theorem d3_68 : DAt B3 68 (.putfield 75) 3 71 := ⟨by decide +kernel, rfl⟩
theorem d3_71 : DAt B3 71 (.aload_n 0) 1 72 := ⟨by decide +kernel, rfl⟩
theorem d3_72 : DAt B3 72 (.iconst 2) 1 73 := ⟨by decide +kernel, rfl⟩
theorem d3_73 : DAt B3 73 (.putfield 69) 3 76 := ⟨by decide +kernel, rfl⟩
theorem d3_76 : DAt B3 76 (.iload_n 1) 1 77 := ⟨by decide +kernel, rfl⟩
theorem d3_77 : DAt B3 77 (.ireturn) 1 78 := ⟨by decide +kernel, rfl⟩
def B6 : Bdy := ((⟨"XorGaussSat", "pendingLength", "()I"⟩ : MethodName), prog_1_method_5_code, 1, (some .int), ({ frames := 0, cells := 0, slots := 0, locals := 0 } : Room))
theorem d6_0 : DAt B6 0 (.aload_n 0) 1 1 := ⟨by decide +kernel, rfl⟩
theorem d6_1 : DAt B6 1 (.getfield 75) 3 4 := ⟨by decide +kernel, rfl⟩
theorem d6_4 : DAt B6 4 (.ireturn) 1 5 := ⟨by decide +kernel, rfl⟩
def B7 : Bdy := ((⟨"XorGaussSat", "clauseCount", "()I"⟩ : MethodName), prog_1_method_9_code, 1, (some .int), ({ frames := 0, cells := 0, slots := 0, locals := 0 } : Room))
theorem d7_0 : DAt B7 0 (.aload_n 0) 1 1 := ⟨by decide +kernel, rfl⟩
theorem d7_1 : DAt B7 1 (.getfield 78) 3 4 := ⟨by decide +kernel, rfl⟩
theorem d7_4 : DAt B7 4 (.ireturn) 1 5 := ⟨by decide +kernel, rfl⟩
def B9 : Bdy := ((⟨"XorGaussSat", "clauseHolds", "(II)Z"⟩ : MethodName), prog_1_method_22_code, 4, (some .boolean), ({ frames := 0, cells := 0, slots := 0, locals := 0 } : Room))
theorem d9_0 : DAt B9 0 (.iload_n 1) 1 1 := ⟨by decide +kernel, rfl⟩
theorem d9_1 : DAt B9 1 (.ifCond .lt 9) 3 4 := ⟨by decide +kernel, rfl⟩
theorem d9_4 : DAt B9 4 (.iload_n 1) 1 5 := ⟨by decide +kernel, rfl⟩
theorem d9_5 : DAt B9 5 (.bipush 24) 2 7 := ⟨by decide +kernel, rfl⟩
theorem d9_7 : DAt B9 7 (.if_icmp .lt 5) 3 10 := ⟨by decide +kernel, rfl⟩
theorem d9_10 : DAt B9 10 (.iconst 1) 1 11 := ⟨by decide +kernel, rfl⟩
theorem d9_11 : DAt B9 11 (.ireturn) 1 12 := ⟨by decide +kernel, rfl⟩
theorem d9_12 : DAt B9 12 (.iload_n 2) 1 13 := ⟨by decide +kernel, rfl⟩
theorem d9_13 : DAt B9 13 (.aload_n 0) 1 14 := ⟨by decide +kernel, rfl⟩
theorem d9_14 : DAt B9 14 (.getfield 17) 3 17 := ⟨by decide +kernel, rfl⟩
theorem d9_17 : DAt B9 17 (.iload_n 1) 1 18 := ⟨by decide +kernel, rfl⟩
theorem d9_18 : DAt B9 18 (.iaload) 1 19 := ⟨by decide +kernel, rfl⟩
theorem d9_19 : DAt B9 19 (.iand) 1 20 := ⟨by decide +kernel, rfl⟩
theorem d9_20 : DAt B9 20 (.iload_n 2) 1 21 := ⟨by decide +kernel, rfl⟩
theorem d9_21 : DAt B9 21 (.iconst (-1)) 1 22 := ⟨by decide +kernel, rfl⟩
theorem d9_22 : DAt B9 22 (.ixor) 1 23 := ⟨by decide +kernel, rfl⟩
theorem d9_23 : DAt B9 23 (.aload_n 0) 1 24 := ⟨by decide +kernel, rfl⟩
theorem d9_24 : DAt B9 24 (.getfield 20) 3 27 := ⟨by decide +kernel, rfl⟩
theorem d9_27 : DAt B9 27 (.iload_n 1) 1 28 := ⟨by decide +kernel, rfl⟩
theorem d9_28 : DAt B9 28 (.iaload) 1 29 := ⟨by decide +kernel, rfl⟩
theorem d9_29 : DAt B9 29 (.iand) 1 30 := ⟨by decide +kernel, rfl⟩
theorem d9_30 : DAt B9 30 (.ior) 1 31 := ⟨by decide +kernel, rfl⟩
theorem d9_31 : DAt B9 31 (.istore_n 3) 1 32 := ⟨by decide +kernel, rfl⟩
theorem d9_32 : DAt B9 32 (.iload_n 3) 1 33 := ⟨by decide +kernel, rfl⟩
theorem d9_33 : DAt B9 33 (.ifCond .eq 7) 3 36 := ⟨by decide +kernel, rfl⟩
theorem d9_36 : DAt B9 36 (.iconst 1) 1 37 := ⟨by decide +kernel, rfl⟩
theorem d9_37 : DAt B9 37 (.goto 4) 3 40 := ⟨by decide +kernel, rfl⟩
theorem d9_40 : DAt B9 40 (.iconst 0) 1 41 := ⟨by decide +kernel, rfl⟩
theorem d9_41 : DAt B9 41 (.ireturn) 1 42 := ⟨by decide +kernel, rfl⟩
def B8 : Bdy := ((⟨"XorGaussSat", "violations", "(I)I"⟩ : MethodName), prog_1_method_15_code, 5, (some .int), ({ frames := 1, cells := 0, slots := 0, locals := 15 } : Room))
theorem d8_0 : DAt B8 0 (.iload_n 1) 1 1 := ⟨by decide +kernel, rfl⟩
theorem d8_1 : DAt B8 1 (.aload_n 0) 1 2 := ⟨by decide +kernel, rfl⟩
theorem d8_2 : DAt B8 2 (.getfield 66) 3 5 := ⟨by decide +kernel, rfl⟩
theorem d8_5 : DAt B8 5 (.iand) 1 6 := ⟨by decide +kernel, rfl⟩
theorem d8_6 : DAt B8 6 (.istore_n 2) 1 7 := ⟨by decide +kernel, rfl⟩
theorem d8_7 : DAt B8 7 (.iconst 0) 1 8 := ⟨by decide +kernel, rfl⟩
theorem d8_8 : DAt B8 8 (.istore_n 3) 1 9 := ⟨by decide +kernel, rfl⟩
theorem d8_9 : DAt B8 9 (.iconst 0) 1 10 := ⟨by decide +kernel, rfl⟩
theorem d8_10 : DAt B8 10 (.istore 4) 2 12 := ⟨by decide +kernel, rfl⟩
theorem d8_12 : DAt B8 12 (.iload 4) 2 14 := ⟨by decide +kernel, rfl⟩
theorem d8_14 : DAt B8 14 (.aload_n 0) 1 15 := ⟨by decide +kernel, rfl⟩
theorem d8_15 : DAt B8 15 (.getfield 78) 3 18 := ⟨by decide +kernel, rfl⟩
theorem d8_18 : DAt B8 18 (.if_icmp .ge 29) 3 21 := ⟨by decide +kernel, rfl⟩
theorem d8_21 : DAt B8 21 (.iload 4) 2 23 := ⟨by decide +kernel, rfl⟩
theorem d8_23 : DAt B8 23 (.bipush 24) 2 25 := ⟨by decide +kernel, rfl⟩
theorem d8_25 : DAt B8 25 (.if_icmp .ge 22) 3 28 := ⟨by decide +kernel, rfl⟩
theorem d8_28 : DAt B8 28 (.aload_n 0) 1 29 := ⟨by decide +kernel, rfl⟩
theorem d8_29 : DAt B8 29 (.iload 4) 2 31 := ⟨by decide +kernel, rfl⟩
theorem d8_31 : DAt B8 31 (.iload_n 2) 1 32 := ⟨by decide +kernel, rfl⟩
theorem d8_32 : DAt B8 32 (.invokevirtual 119) 3 35 := ⟨by decide +kernel, rfl⟩
theorem d8_35 : DAt B8 35 (.ifCond .ne 6) 3 38 := ⟨by decide +kernel, rfl⟩
theorem d8_38 : DAt B8 38 (.iinc 3 1) 3 41 := ⟨by decide +kernel, rfl⟩
theorem d8_41 : DAt B8 41 (.iinc 4 1) 3 44 := ⟨by decide +kernel, rfl⟩
theorem d8_44 : DAt B8 44 (.goto (-32)) 3 47 := ⟨by decide +kernel, rfl⟩
theorem d8_47 : DAt B8 47 (.iconst 0) 1 48 := ⟨by decide +kernel, rfl⟩
theorem d8_48 : DAt B8 48 (.istore 4) 2 50 := ⟨by decide +kernel, rfl⟩
theorem d8_50 : DAt B8 50 (.iload 4) 2 52 := ⟨by decide +kernel, rfl⟩
theorem d8_52 : DAt B8 52 (.aload_n 0) 1 53 := ⟨by decide +kernel, rfl⟩
theorem d8_53 : DAt B8 53 (.getfield 81) 3 56 := ⟨by decide +kernel, rfl⟩
theorem d8_56 : DAt B8 56 (.if_icmp .ge 29) 3 59 := ⟨by decide +kernel, rfl⟩
theorem d8_59 : DAt B8 59 (.iload 4) 2 61 := ⟨by decide +kernel, rfl⟩
theorem d8_61 : DAt B8 61 (.bipush 16) 2 63 := ⟨by decide +kernel, rfl⟩
theorem d8_63 : DAt B8 63 (.if_icmp .ge 22) 3 66 := ⟨by decide +kernel, rfl⟩
theorem d8_66 : DAt B8 66 (.aload_n 0) 1 67 := ⟨by decide +kernel, rfl⟩
theorem d8_67 : DAt B8 67 (.iload 4) 2 69 := ⟨by decide +kernel, rfl⟩
theorem d8_69 : DAt B8 69 (.iload_n 2) 1 70 := ⟨by decide +kernel, rfl⟩
theorem d8_85 : DAt B8 85 (.iload_n 3) 1 86 := ⟨by decide +kernel, rfl⟩
theorem d8_86 : DAt B8 86 (.ireturn) 1 87 := ⟨by decide +kernel, rfl⟩
def B10 : Bdy := ((⟨"XorGaussSat", "popConstraint", "()I"⟩ : MethodName), prog_1_method_8_code, 2, (some .int), ({ frames := 0, cells := 0, slots := 0, locals := 0 } : Room))
theorem d10_0 : DAt B10 0 (.aload_n 0) 1 1 := ⟨by decide +kernel, rfl⟩
theorem d10_1 : DAt B10 1 (.getfield 84) 3 4 := ⟨by decide +kernel, rfl⟩
theorem d10_4 : DAt B10 4 (.ifCond .le 12) 3 7 := ⟨by decide +kernel, rfl⟩
theorem d10_7 : DAt B10 7 (.aload_n 0) 1 8 := ⟨by decide +kernel, rfl⟩
theorem d10_8 : DAt B10 8 (.getfield 84) 3 11 := ⟨by decide +kernel, rfl⟩
theorem d10_11 : DAt B10 11 (.bipush 40) 2 13 := ⟨by decide +kernel, rfl⟩
theorem d10_13 : DAt B10 13 (.if_icmp .le 6) 3 16 := ⟨by decide +kernel, rfl⟩
theorem d10_16 : DAt B10 16 (.bipush (-3)) 2 18 := ⟨by decide +kernel, rfl⟩
theorem d10_18 : DAt B10 18 (.ireturn) 1 19 := ⟨by decide +kernel, rfl⟩
theorem d10_19 : DAt B10 19 (.aload_n 0) 1 20 := ⟨by decide +kernel, rfl⟩
theorem d10_20 : DAt B10 20 (.getfield 29) 3 23 := ⟨by decide +kernel, rfl⟩
theorem d10_23 : DAt B10 23 (.aload_n 0) 1 24 := ⟨by decide +kernel, rfl⟩
theorem d10_24 : DAt B10 24 (.getfield 84) 3 27 := ⟨by decide +kernel, rfl⟩
theorem d10_27 : DAt B10 27 (.iconst 1) 1 28 := ⟨by decide +kernel, rfl⟩
theorem d10_28 : DAt B10 28 (.isub) 1 29 := ⟨by decide +kernel, rfl⟩
theorem d10_29 : DAt B10 29 (.iaload) 1 30 := ⟨by decide +kernel, rfl⟩
theorem d10_30 : DAt B10 30 (.istore_n 1) 1 31 := ⟨by decide +kernel, rfl⟩
theorem d10_31 : DAt B10 31 (.aload_n 0) 1 32 := ⟨by decide +kernel, rfl⟩
theorem d10_32 : DAt B10 32 (.dup) 1 33 := ⟨by decide +kernel, rfl⟩
theorem d10_33 : DAt B10 33 (.getfield 84) 3 36 := ⟨by decide +kernel, rfl⟩
theorem d10_36 : DAt B10 36 (.iconst 1) 1 37 := ⟨by decide +kernel, rfl⟩
theorem d10_37 : DAt B10 37 (.isub) 1 38 := ⟨by decide +kernel, rfl⟩
theorem d10_38 : DAt B10 38 (.putfield 84) 3 41 := ⟨by decide +kernel, rfl⟩
theorem d10_41 : DAt B10 41 (.iload_n 1) 1 42 := ⟨by decide +kernel, rfl⟩
theorem d10_42 : DAt B10 42 (.iconst 1) 1 43 := ⟨by decide +kernel, rfl⟩
theorem d10_43 : DAt B10 43 (.if_icmp .ne 23) 3 46 := ⟨by decide +kernel, rfl⟩
theorem d10_46 : DAt B10 46 (.aload_n 0) 1 47 := ⟨by decide +kernel, rfl⟩
theorem d10_47 : DAt B10 47 (.getfield 78) 3 50 := ⟨by decide +kernel, rfl⟩
theorem d10_50 : DAt B10 50 (.ifCond .le 38) 3 53 := ⟨by decide +kernel, rfl⟩
theorem d10_53 : DAt B10 53 (.aload_n 0) 1 54 := ⟨by decide +kernel, rfl⟩
theorem d10_54 : DAt B10 54 (.dup) 1 55 := ⟨by decide +kernel, rfl⟩
theorem d10_55 : DAt B10 55 (.getfield 78) 3 58 := ⟨by decide +kernel, rfl⟩
theorem d10_58 : DAt B10 58 (.iconst 1) 1 59 := ⟨by decide +kernel, rfl⟩
theorem d10_59 : DAt B10 59 (.isub) 1 60 := ⟨by decide +kernel, rfl⟩
theorem d10_60 : DAt B10 60 (.putfield 78) 3 63 := ⟨by decide +kernel, rfl⟩
theorem d10_63 : DAt B10 63 (.goto 25) 3 66 := ⟨by decide +kernel, rfl⟩
theorem d10_66 : DAt B10 66 (.aload_n 0) 1 67 := ⟨by decide +kernel, rfl⟩
theorem d10_67 : DAt B10 67 (.getfield 81) 3 70 := ⟨by decide +kernel, rfl⟩
theorem d10_70 : DAt B10 70 (.ifCond .le 13) 3 73 := ⟨by decide +kernel, rfl⟩
theorem d10_73 : DAt B10 73 (.aload_n 0) 1 74 := ⟨by decide +kernel, rfl⟩
theorem d10_74 : DAt B10 74 (.dup) 1 75 := ⟨by decide +kernel, rfl⟩
theorem d10_75 : DAt B10 75 (.getfield 81) 3 78 := ⟨by decide +kernel, rfl⟩
theorem d10_78 : DAt B10 78 (.iconst 1) 1 79 := ⟨by decide +kernel, rfl⟩
theorem d10_79 : DAt B10 79 (.isub) 1 80 := ⟨by decide +kernel, rfl⟩
theorem d10_80 : DAt B10 80 (.putfield 81) 3 83 := ⟨by decide +kernel, rfl⟩
theorem d10_83 : DAt B10 83 (.aload_n 0) 1 84 := ⟨by decide +kernel, rfl⟩
theorem d10_84 : DAt B10 84 (.iconst 0) 1 85 := ⟨by decide +kernel, rfl⟩
theorem d10_85 : DAt B10 85 (.putfield 87) 3 88 := ⟨by decide +kernel, rfl⟩
theorem d10_88 : DAt B10 88 (.aload_n 0) 1 89 := ⟨by decide +kernel, rfl⟩
theorem d10_89 : DAt B10 89 (.iconst 2) 1 90 := ⟨by decide +kernel, rfl⟩
theorem d10_90 : DAt B10 90 (.putfield 69) 3 93 := ⟨by decide +kernel, rfl⟩
theorem d10_93 : DAt B10 93 (.iload_n 1) 1 94 := ⟨by decide +kernel, rfl⟩
theorem d10_94 : DAt B10 94 (.ireturn) 1 95 := ⟨by decide +kernel, rfl⟩
def B11 : Bdy := ((⟨"XorGaussSat", "status", "()I"⟩ : MethodName), prog_1_method_12_code, 1, (some .int), ({ frames := 0, cells := 0, slots := 0, locals := 0 } : Room))
theorem d11_0 : DAt B11 0 (.aload_n 0) 1 1 := ⟨by decide +kernel, rfl⟩
theorem d11_1 : DAt B11 1 (.getfield 69) 3 4 := ⟨by decide +kernel, rfl⟩
theorem d11_4 : DAt B11 4 (.ireturn) 1 5 := ⟨by decide +kernel, rfl⟩
def B0 : Bdy := (x, code, maxLocals, ret, room_1)
theorem d0_0 : DAt B0 0 (.new 7) 3 3 := ⟨at_0, rfl⟩
theorem d0_3 : DAt B0 3 (.dup) 1 4 := ⟨at_3, rfl⟩
theorem d0_4 : DAt B0 4 (.iload_n 0) 1 5 := ⟨at_4, rfl⟩
theorem d0_5 : DAt B0 5 (.invokespecial 9) 3 8 := ⟨at_5, rfl⟩
theorem d0_8 : DAt B0 8 (.astore_n 3) 1 9 := ⟨at_8, rfl⟩
theorem d0_9 : DAt B0 9 (.iload_n 0) 1 10 := ⟨at_9, rfl⟩
theorem d0_10 : DAt B0 10 (.iconst 1) 1 11 := ⟨at_10, rfl⟩
theorem d0_11 : DAt B0 11 (.if_icmp .ge 7) 3 14 := ⟨at_11, rfl⟩
theorem d0_14 : DAt B0 14 (.iconst 1) 1 15 := ⟨at_14, rfl⟩
theorem d0_15 : DAt B0 15 (.goto 15) 3 18 := ⟨at_15, rfl⟩
theorem d0_18 : DAt B0 18 (.iload_n 0) 1 19 := ⟨at_18, rfl⟩
theorem d0_19 : DAt B0 19 (.bipush 12) 2 21 := ⟨at_19, rfl⟩
theorem d0_21 : DAt B0 21 (.if_icmp .le 8) 3 24 := ⟨at_21, rfl⟩
theorem d0_24 : DAt B0 24 (.bipush 12) 2 26 := ⟨at_24, rfl⟩
theorem d0_26 : DAt B0 26 (.goto 4) 3 29 := ⟨at_26, rfl⟩
theorem d0_29 : DAt B0 29 (.iload_n 0) 1 30 := ⟨at_29, rfl⟩
theorem d0_30 : DAt B0 30 (.istore 4) 2 32 := ⟨at_30, rfl⟩
theorem d0_32 : DAt B0 32 (.iload_n 1) 1 33 := ⟨at_32, rfl⟩
theorem d0_33 : DAt B0 33 (.ifCond .lt 13) 3 36 := ⟨at_33, rfl⟩
theorem d0_36 : DAt B0 36 (.iload_n 1) 1 37 := ⟨at_36, rfl⟩
theorem d0_37 : DAt B0 37 (.iload 4) 2 39 := ⟨at_37, rfl⟩
theorem d0_39 : DAt B0 39 (.if_icmp .ge 7) 3 42 := ⟨at_39, rfl⟩
theorem d0_42 : DAt B0 42 (.iconst 1) 1 43 := ⟨at_42, rfl⟩
theorem d0_43 : DAt B0 43 (.goto 4) 3 46 := ⟨at_43, rfl⟩
theorem d0_46 : DAt B0 46 (.iconst 0) 1 47 := ⟨at_46, rfl⟩
theorem d0_47 : DAt B0 47 (.istore 5) 2 49 := ⟨at_47, rfl⟩
theorem d0_49 : DAt B0 49 (.iload_n 2) 1 50 := ⟨at_49, rfl⟩
theorem d0_50 : DAt B0 50 (.ifCond .lt 13) 3 53 := ⟨at_50, rfl⟩
theorem d0_53 : DAt B0 53 (.iload_n 2) 1 54 := ⟨at_53, rfl⟩
theorem d0_54 : DAt B0 54 (.iload 4) 2 56 := ⟨at_54, rfl⟩
theorem d0_56 : DAt B0 56 (.if_icmp .ge 7) 3 59 := ⟨at_56, rfl⟩
theorem d0_59 : DAt B0 59 (.iconst 1) 1 60 := ⟨at_59, rfl⟩
theorem d0_60 : DAt B0 60 (.goto 4) 3 63 := ⟨at_60, rfl⟩
theorem d0_63 : DAt B0 63 (.iconst 0) 1 64 := ⟨at_63, rfl⟩
theorem d0_64 : DAt B0 64 (.istore 6) 2 66 := ⟨at_64, rfl⟩
theorem d0_66 : DAt B0 66 (.aload_n 3) 1 67 := ⟨at_66, rfl⟩
theorem d0_67 : DAt B0 67 (.iload_n 1) 1 68 := ⟨at_67, rfl⟩
theorem d0_68 : DAt B0 68 (.iconst 0) 1 69 := ⟨at_68, rfl⟩
theorem d0_69 : DAt B0 69 (.invokevirtual 12) 3 72 := ⟨at_69, rfl⟩
theorem d0_72 : DAt B0 72 (.iload 5) 2 74 := ⟨at_72, rfl⟩
theorem d0_74 : DAt B0 74 (.ifCond .eq 7) 3 77 := ⟨at_74, rfl⟩
theorem d0_77 : DAt B0 77 (.iconst 1) 1 78 := ⟨at_77, rfl⟩
theorem d0_78 : DAt B0 78 (.goto 4) 3 81 := ⟨at_78, rfl⟩
theorem d0_81 : DAt B0 81 (.iconst (-1)) 1 82 := ⟨at_81, rfl⟩
theorem d0_82 : DAt B0 82 (.if_icmp .ne 7) 3 85 := ⟨at_82, rfl⟩
theorem d0_85 : DAt B0 85 (.iconst 1) 1 86 := ⟨at_85, rfl⟩
theorem d0_86 : DAt B0 86 (.goto 4) 3 89 := ⟨at_86, rfl⟩
theorem d0_89 : DAt B0 89 (.iconst 0) 1 90 := ⟨at_89, rfl⟩
theorem d0_90 : DAt B0 90 (.istore 7) 2 92 := ⟨at_90, rfl⟩
theorem d0_92 : DAt B0 92 (.iload 7) 2 94 := ⟨at_92, rfl⟩
theorem d0_94 : DAt B0 94 (.aload_n 3) 1 95 := ⟨at_94, rfl⟩
theorem d0_95 : DAt B0 95 (.iload_n 2) 1 96 := ⟨at_95, rfl⟩
theorem d0_96 : DAt B0 96 (.iconst 1) 1 97 := ⟨at_96, rfl⟩
theorem d0_97 : DAt B0 97 (.invokevirtual 12) 3 100 := ⟨at_97, rfl⟩
theorem d0_100 : DAt B0 100 (.iload 6) 2 102 := ⟨at_100, rfl⟩
theorem d0_102 : DAt B0 102 (.ifCond .eq 16) 3 105 := ⟨at_102, rfl⟩
theorem d0_105 : DAt B0 105 (.iload 5) 2 107 := ⟨at_105, rfl⟩
theorem d0_107 : DAt B0 107 (.ifCond .eq 7) 3 110 := ⟨at_107, rfl⟩
theorem d0_110 : DAt B0 110 (.iconst 2) 1 111 := ⟨at_110, rfl⟩
theorem d0_111 : DAt B0 111 (.goto 8) 3 114 := ⟨at_111, rfl⟩
theorem d0_114 : DAt B0 114 (.iconst 1) 1 115 := ⟨at_114, rfl⟩
theorem d0_115 : DAt B0 115 (.goto 4) 3 118 := ⟨at_115, rfl⟩
theorem d0_118 : DAt B0 118 (.iconst (-1)) 1 119 := ⟨at_118, rfl⟩
theorem d0_119 : DAt B0 119 (.if_icmp .ne 7) 3 122 := ⟨at_119, rfl⟩
theorem d0_122 : DAt B0 122 (.iconst 1) 1 123 := ⟨at_122, rfl⟩
theorem d0_123 : DAt B0 123 (.goto 4) 3 126 := ⟨at_123, rfl⟩
theorem d0_126 : DAt B0 126 (.iconst 0) 1 127 := ⟨at_126, rfl⟩
theorem d0_127 : DAt B0 127 (.iand) 1 128 := ⟨at_127, rfl⟩
theorem d0_128 : DAt B0 128 (.istore 7) 2 130 := ⟨at_128, rfl⟩
theorem d0_130 : DAt B0 130 (.iload 7) 2 132 := ⟨at_130, rfl⟩
theorem d0_132 : DAt B0 132 (.aload_n 3) 1 133 := ⟨at_132, rfl⟩
theorem d0_133 : DAt B0 133 (.invokevirtual 16) 3 136 := ⟨at_133, rfl⟩
theorem d0_136 : DAt B0 136 (.ifCond .ne 7) 3 139 := ⟨at_136, rfl⟩
theorem d0_139 : DAt B0 139 (.iconst 1) 1 140 := ⟨at_139, rfl⟩
theorem d0_140 : DAt B0 140 (.goto 4) 3 143 := ⟨at_140, rfl⟩
theorem d0_143 : DAt B0 143 (.iconst 0) 1 144 := ⟨at_143, rfl⟩
theorem d0_144 : DAt B0 144 (.iand) 1 145 := ⟨at_144, rfl⟩
theorem d0_145 : DAt B0 145 (.istore 7) 2 147 := ⟨at_145, rfl⟩
theorem d0_147 : DAt B0 147 (.iload 7) 2 149 := ⟨at_147, rfl⟩
theorem d0_149 : DAt B0 149 (.aload_n 3) 1 150 := ⟨at_149, rfl⟩
theorem d0_150 : DAt B0 150 (.invokevirtual 20) 3 153 := ⟨at_150, rfl⟩
theorem d0_153 : DAt B0 153 (.ifCond .ne 7) 3 156 := ⟨at_153, rfl⟩
theorem d0_156 : DAt B0 156 (.iconst 1) 1 157 := ⟨at_156, rfl⟩
theorem d0_157 : DAt B0 157 (.goto 4) 3 160 := ⟨at_157, rfl⟩
theorem d0_160 : DAt B0 160 (.iconst 0) 1 161 := ⟨at_160, rfl⟩
theorem d0_161 : DAt B0 161 (.iand) 1 162 := ⟨at_161, rfl⟩
theorem d0_162 : DAt B0 162 (.istore 7) 2 164 := ⟨at_162, rfl⟩
theorem d0_164 : DAt B0 164 (.iload 7) 2 166 := ⟨at_164, rfl⟩
theorem d0_166 : DAt B0 166 (.aload_n 3) 1 167 := ⟨at_166, rfl⟩
theorem d0_167 : DAt B0 167 (.invokevirtual 23) 3 170 := ⟨at_167, rfl⟩
theorem d0_170 : DAt B0 170 (.iconst 1) 1 171 := ⟨at_170, rfl⟩
theorem d0_171 : DAt B0 171 (.if_icmp .ne 7) 3 174 := ⟨at_171, rfl⟩
theorem d0_174 : DAt B0 174 (.iconst 1) 1 175 := ⟨at_174, rfl⟩
theorem d0_175 : DAt B0 175 (.goto 4) 3 178 := ⟨at_175, rfl⟩
theorem d0_178 : DAt B0 178 (.iconst 0) 1 179 := ⟨at_178, rfl⟩
theorem d0_179 : DAt B0 179 (.iand) 1 180 := ⟨at_179, rfl⟩
theorem d0_180 : DAt B0 180 (.istore 7) 2 182 := ⟨at_180, rfl⟩
theorem d0_182 : DAt B0 182 (.iload 7) 2 184 := ⟨at_182, rfl⟩
theorem d0_184 : DAt B0 184 (.aload_n 3) 1 185 := ⟨at_184, rfl⟩
theorem d0_185 : DAt B0 185 (.iconst 0) 1 186 := ⟨at_185, rfl⟩
theorem d0_186 : DAt B0 186 (.invokevirtual 26) 3 189 := ⟨at_186, rfl⟩
theorem d0_189 : DAt B0 189 (.iload 6) 2 191 := ⟨at_189, rfl⟩
theorem d0_191 : DAt B0 191 (.ifCond .eq 7) 3 194 := ⟨at_191, rfl⟩
theorem d0_194 : DAt B0 194 (.iconst 0) 1 195 := ⟨at_194, rfl⟩
theorem d0_195 : DAt B0 195 (.goto 4) 3 198 := ⟨at_195, rfl⟩
theorem d0_198 : DAt B0 198 (.iconst 1) 1 199 := ⟨at_198, rfl⟩
theorem d0_199 : DAt B0 199 (.if_icmp .ne 7) 3 202 := ⟨at_199, rfl⟩
theorem d0_202 : DAt B0 202 (.iconst 1) 1 203 := ⟨at_202, rfl⟩
theorem d0_203 : DAt B0 203 (.goto 4) 3 206 := ⟨at_203, rfl⟩
theorem d0_206 : DAt B0 206 (.iconst 0) 1 207 := ⟨at_206, rfl⟩
theorem d0_207 : DAt B0 207 (.iand) 1 208 := ⟨at_207, rfl⟩
theorem d0_208 : DAt B0 208 (.istore 7) 2 210 := ⟨at_208, rfl⟩
theorem d0_210 : DAt B0 210 (.iload 7) 2 212 := ⟨at_210, rfl⟩
theorem d0_212 : DAt B0 212 (.aload_n 3) 1 213 := ⟨at_212, rfl⟩
theorem d0_213 : DAt B0 213 (.iconst (-1)) 1 214 := ⟨at_213, rfl⟩
theorem d0_214 : DAt B0 214 (.invokevirtual 26) 3 217 := ⟨at_214, rfl⟩
theorem d0_217 : DAt B0 217 (.iload 5) 2 219 := ⟨at_217, rfl⟩
theorem d0_219 : DAt B0 219 (.ifCond .eq 7) 3 222 := ⟨at_219, rfl⟩
theorem d0_222 : DAt B0 222 (.iconst 0) 1 223 := ⟨at_222, rfl⟩
theorem d0_223 : DAt B0 223 (.goto 4) 3 226 := ⟨at_223, rfl⟩
theorem d0_226 : DAt B0 226 (.iconst 1) 1 227 := ⟨at_226, rfl⟩
theorem d0_227 : DAt B0 227 (.if_icmp .ne 7) 3 230 := ⟨at_227, rfl⟩
theorem d0_230 : DAt B0 230 (.iconst 1) 1 231 := ⟨at_230, rfl⟩
theorem d0_231 : DAt B0 231 (.goto 4) 3 234 := ⟨at_231, rfl⟩
theorem d0_234 : DAt B0 234 (.iconst 0) 1 235 := ⟨at_234, rfl⟩
theorem d0_235 : DAt B0 235 (.iand) 1 236 := ⟨at_235, rfl⟩
theorem d0_236 : DAt B0 236 (.istore 7) 2 238 := ⟨at_236, rfl⟩
theorem d0_238 : DAt B0 238 (.iload 7) 2 240 := ⟨at_238, rfl⟩
theorem d0_240 : DAt B0 240 (.aload_n 3) 1 241 := ⟨at_240, rfl⟩
theorem d0_241 : DAt B0 241 (.invokevirtual 30) 3 244 := ⟨at_241, rfl⟩
theorem d0_244 : DAt B0 244 (.iconst 1) 1 245 := ⟨at_244, rfl⟩
theorem d0_245 : DAt B0 245 (.if_icmp .ne 7) 3 248 := ⟨at_245, rfl⟩
theorem d0_248 : DAt B0 248 (.iconst 1) 1 249 := ⟨at_248, rfl⟩
theorem d0_249 : DAt B0 249 (.goto 4) 3 252 := ⟨at_249, rfl⟩
theorem d0_252 : DAt B0 252 (.iconst 0) 1 253 := ⟨at_252, rfl⟩
theorem d0_253 : DAt B0 253 (.iand) 1 254 := ⟨at_253, rfl⟩
theorem d0_254 : DAt B0 254 (.istore 7) 2 256 := ⟨at_254, rfl⟩
theorem d0_256 : DAt B0 256 (.iload 7) 2 258 := ⟨at_256, rfl⟩
theorem d0_258 : DAt B0 258 (.aload_n 3) 1 259 := ⟨at_258, rfl⟩
theorem d0_259 : DAt B0 259 (.invokevirtual 23) 3 262 := ⟨at_259, rfl⟩
theorem d0_262 : DAt B0 262 (.ifCond .ne 7) 3 265 := ⟨at_262, rfl⟩
theorem d0_265 : DAt B0 265 (.iconst 1) 1 266 := ⟨at_265, rfl⟩
theorem d0_266 : DAt B0 266 (.goto 4) 3 269 := ⟨at_266, rfl⟩
theorem d0_269 : DAt B0 269 (.iconst 0) 1 270 := ⟨at_269, rfl⟩
theorem d0_270 : DAt B0 270 (.iand) 1 271 := ⟨at_270, rfl⟩
theorem d0_271 : DAt B0 271 (.istore 7) 2 273 := ⟨at_271, rfl⟩
theorem d0_273 : DAt B0 273 (.iload 7) 2 275 := ⟨at_273, rfl⟩
theorem d0_275 : DAt B0 275 (.aload_n 3) 1 276 := ⟨at_275, rfl⟩
theorem d0_276 : DAt B0 276 (.invokevirtual 33) 3 279 := ⟨at_276, rfl⟩
theorem d0_279 : DAt B0 279 (.iconst 2) 1 280 := ⟨at_279, rfl⟩
theorem d0_280 : DAt B0 280 (.if_icmp .ne 7) 3 283 := ⟨at_280, rfl⟩
theorem d0_283 : DAt B0 283 (.iconst 1) 1 284 := ⟨at_283, rfl⟩
theorem d0_284 : DAt B0 284 (.goto 4) 3 287 := ⟨at_284, rfl⟩
theorem d0_287 : DAt B0 287 (.iconst 0) 1 288 := ⟨at_287, rfl⟩
theorem d0_288 : DAt B0 288 (.iand) 1 289 := ⟨at_288, rfl⟩
theorem d0_289 : DAt B0 289 (.istore 7) 2 291 := ⟨at_289, rfl⟩
theorem d0_291 : DAt B0 291 (.iload 7) 2 293 := ⟨at_291, rfl⟩
theorem d0_293 : DAt B0 293 (.ireturn) 1 294 := ⟨at_293, rfl⟩
theorem ar1 : arity B1 1 := ⟨[.int], none, by decide +kernel, rfl⟩
theorem ar2 : arity B2 2 := ⟨[.int, .boolean], some .int, by decide +kernel, rfl⟩
theorem ar3 : arity B3 0 := ⟨[], some .int, by decide +kernel, rfl⟩
theorem ar4 : arity B4 1 := ⟨[.boolean], some .int, by decide +kernel, rfl⟩
theorem ar5 : arity B5 1 := ⟨[.int], none, by decide +kernel, rfl⟩
theorem ar6 : arity B6 0 := ⟨[], some .int, by decide +kernel, rfl⟩
theorem ar7 : arity B7 0 := ⟨[], some .int, by decide +kernel, rfl⟩
theorem ar8 : arity B8 1 := ⟨[.int], some .int, by decide +kernel, rfl⟩
theorem ar9 : arity B9 2 := ⟨[.int, .int], some .boolean, by decide +kernel, rfl⟩
theorem ar10 : arity B10 0 := ⟨[], some .int, by decide +kernel, rfl⟩
theorem ar11 : arity B11 0 := ⟨[], some .int, by decide +kernel, rfl⟩
theorem cw1 : code_w B1 := ⟨mem1 5 rfl, mem1 2 rfl, by decide⟩
theorem cw2 : code_w B2 := ⟨mem1 71 rfl, mem1 2 rfl, by decide⟩
theorem cw3 : code_w B3 := ⟨mem1 76 rfl, mem1 2 rfl, by decide⟩
theorem cw4 : code_w B4 := ⟨mem1 80 rfl, mem1 2 rfl, by decide⟩
theorem cw5 : code_w B5 := ⟨mem1 84 rfl, mem1 2 rfl, by decide⟩
theorem cw6 : code_w B6 := ⟨mem1 89 rfl, mem1 2 rfl, by decide⟩
theorem cw7 : code_w B7 := ⟨mem1 94 rfl, mem1 2 rfl, by decide⟩
theorem cw8 : code_w B8 := ⟨mem1 99 rfl, mem1 2 rfl, by decide⟩
theorem cw9 : code_w B9 := ⟨mem1 103 rfl, mem1 2 rfl, by decide⟩
theorem cw10 : code_w B10 := ⟨mem1 108 rfl, mem1 2 rfl, by decide⟩
theorem cw11 : code_w B11 := ⟨mem1 113 rfl, mem1 2 rfl, by decide⟩
theorem rk0_2_0 : room_ok B0 B2 0 := by decide
theorem rk0_2_1 : room_ok B0 B2 1 := by decide
theorem rk0_3_1 : room_ok B0 B3 1 := by decide
theorem rk0_6_1 : room_ok B0 B6 1 := by decide
theorem rk0_7_1 : room_ok B0 B7 1 := by decide
theorem rk0_8_1 : room_ok B0 B8 1 := by decide
theorem rk0_10_1 : room_ok B0 B10 1 := by decide
theorem rk0_11_1 : room_ok B0 B11 1 := by decide
theorem rk3_4_2 : room_ok B3 B4 2 := by decide
theorem rk3_5_0 : room_ok B3 B5 0 := by decide
theorem rk8_9_0 : room_ok B8 B9 0 := by decide
def X_init_b158 (ob : Rec) (i2 : Int32) : Option (Rec) :=
  some (sI (sI (sI (sI (sI (sI (sI (sI (sI (sI (sI ob 0 i2) 1 (((1 : Int32) <<< (i2 &&& 31)) - (1 : Int32))) 2 (2 : Int32)) 3 (0 : Int32)) 4 (0 : Int32)) 5 (0 : Int32)) 6 (0 : Int32)) 7 (0 : Int32)) 10 (0 : Int32)) 9 (1 : Int32)) 8 (0 : Int32))
set_option maxRecDepth 65536 in
set_option maxHeartbeats 4000000 in
theorem X_init_b158_p {C : Ctx} {a : Nat} {H : List (Nat × Nat × Rec)} {res : Rec} (ob : Rec) (i2 : Int32) (hf : X_init_b158 ob i2 = some res) : Runs C B1 17 283 158 [vr a, vn, vi i2] [] (a + 1 + 17, (a, 17, ob) :: H) (Ans none (a + 1 + 17, (a, 17, res) :: H)) := by
  delta X_init_b158 at hf
  refine Runs.aloadN d1_158 rfl <| Runs.iloadN d1_159 rfl <| Runs.putI d1_160 w45 fS_0 (Or.inl w46) <| Runs.aloadN d1_163 rfl <| Runs.iconst d1_164 ci_1 <| Runs.iloadN d1_165 rfl <| Runs.ishl d1_166 <| Runs.iconst d1_167 ci_1 <| Runs.isub d1_168 <| Runs.putI d1_169 w47 fS_1 (Or.inl w48) <| Runs.aloadN d1_172 rfl <| Runs.iconst d1_173 ci_2 <| ?_
  refine Runs.putI d1_174 w49 fS_2 (Or.inl w50) <| Runs.aloadN d1_177 rfl <| Runs.iconst d1_178 ci_0 <| Runs.putI d1_179 w51 fS_3 (Or.inl w52) <| Runs.aloadN d1_182 rfl <| Runs.iconst d1_183 ci_0 <| Runs.putI d1_184 w53 fS_4 (Or.inl w54) <| Runs.aloadN d1_187 rfl <| Runs.iconst d1_188 ci_0 <| Runs.putI d1_189 w55 fS_5 (Or.inl w56) <| Runs.aloadN d1_192 rfl <| Runs.iconst d1_193 ci_0 <| ?_
  refine Runs.putI d1_194 w57 fS_6 (Or.inl w58) <| Runs.aloadN d1_197 rfl <| Runs.iconst d1_198 ci_0 <| Runs.putI d1_199 w59 fS_7 (Or.inl w60) <| Runs.aloadN d1_202 rfl <| Runs.iconst d1_203 ci_0 <| Runs.putZ (y := (0 : Int32)) d1_204 w61 fS_10 (Or.inl w62) rfl <| Runs.aloadN d1_207 rfl <| Runs.iconst d1_208 ci_1 <| Runs.putZ (y := (1 : Int32)) d1_209 w63 fS_9 (Or.inl w64) rfl <| Runs.aloadN d1_212 rfl <| Runs.iconst d1_213 ci_0 <| ?_
  obtain rfl := Option.some.inj hf
  exact Runs.putI d1_214 w65 fS_8 (Or.inl w66) <| Runs.retV d1_217 rfl ⟨by decide, by decide⟩ ⟨rfl, rfl⟩
def X_init_b149 (ob : Rec) (i2 : Int32) : Option (Rec) :=
  if (12 : Int32) < i2 then
    X_init_b158 ob (12 : Int32)
  else
    X_init_b158 ob i2
set_option maxRecDepth 65536 in
set_option maxHeartbeats 4000000 in
theorem X_init_b149_p {C : Ctx} {a : Nat} {H : List (Nat × Nat × Rec)} {res : Rec} (ob : Rec) (i2 : Int32) (hf : X_init_b149 ob i2 = some res) : Runs C B1 17 283 149 [vr a, vn, vi i2] [] (a + 1 + 17, (a, 17, ob) :: H) (Ans none (a + 1 + 17, (a, 17, res) :: H)) := by
  delta X_init_b149 at hf
  refine Runs.iloadN d1_149 rfl <| Runs.bipush d1_150 cb_12 <| ?_
  refine ite_el hf (fun hc1 hf => ?_) (fun hc1 hf => ?_)
  · refine Runs.icN d1_152 (tlt hc1).2.2.2 <| ?_
    exact Runs.bipush d1_155 cb_12 <| Runs.istoreN (P' := [vr a, vn, vi (12 : Int32)]) d1_157 (by decide) rfl <| X_init_b158_p ob (12 : Int32) hf
  · exact Runs.icY (pc' := 158) d1_152 (flt hc1).2.2.2 (by decide) <| X_init_b158_p ob i2 hf
def X_init (i1 : Int32) : Option (Rec) :=
  if i1 < (1 : Int32) then
    X_init_b149 zrec (1 : Int32)
  else
    X_init_b149 zrec i1
set_option maxRecDepth 65536 in
set_option maxHeartbeats 4000000 in
theorem X_init_p {C : Ctx} {a : Nat} {H : List (Nat × Nat × Rec)} {res : Rec} (i1 : Int32) (hf : X_init i1 = some res) : Runs C B1 0 0 0 [vr a, vi i1, vn] [] (a + 1, (a, 0, zrec) :: H) (Ans none (a + 1 + 17, (a, 17, res) :: H)) := by
  delta X_init at hf
  refine Runs.aloadN d1_0 rfl <| Runs.initO (W := 0) d1_1 w6 w7 w8 rfl (by decide) <| Runs.aloadN d1_4 rfl <| Runs.bipush d1_5 cb_8 <| Runs.newArr (j' := 1) (top' := a + 1 + 1) (k' := 1) (n' := 8) d1_7 d1_9 fA_0 w10 rfl w9 (Or.inr ⟨rfl, rfl⟩) rfl (by decide) ⟨by decide, by decide⟩ ⟨fun _ => rfl, fun _ => rfl⟩ rfl rfl rfl (by decide) <| Runs.aloadN d1_12 rfl <| Runs.bipush d1_13 cb_8 <| Runs.newArr (j' := 2) (top' := a + 1 + 2) (k' := 2) (n' := 16) d1_15 d1_17 fA_1 w13 rfl w12 (Or.inr ⟨rfl, rfl⟩) rfl (by decide) ⟨by decide, by decide⟩ ⟨fun _ => rfl, fun _ => rfl⟩ rfl rfl rfl (by decide) <| Runs.aloadN d1_20 rfl <| Runs.bipush d1_21 cb_24 <| Runs.newArr (j' := 3) (top' := a + 1 + 3) (k' := 3) (n' := 40) d1_23 d1_25 fA_2 w15 rfl w9 (Or.inr ⟨rfl, rfl⟩) rfl (by decide) ⟨by decide, by decide⟩ ⟨fun _ => rfl, fun _ => rfl⟩ rfl rfl rfl (by decide) <| Runs.aloadN d1_28 rfl <| ?_
  refine Runs.bipush d1_29 cb_24 <| Runs.newArr (j' := 4) (top' := a + 1 + 4) (k' := 4) (n' := 64) d1_31 d1_33 fA_3 w17 rfl w9 (Or.inr ⟨rfl, rfl⟩) rfl (by decide) ⟨by decide, by decide⟩ ⟨fun _ => rfl, fun _ => rfl⟩ rfl rfl rfl (by decide) <| Runs.aloadN d1_36 rfl <| Runs.bipush d1_37 cb_16 <| Runs.newArr (j' := 5) (top' := a + 1 + 5) (k' := 5) (n' := 80) d1_39 d1_41 fA_4 w19 rfl w9 (Or.inr ⟨rfl, rfl⟩) rfl (by decide) ⟨by decide, by decide⟩ ⟨fun _ => rfl, fun _ => rfl⟩ rfl rfl rfl (by decide) <| Runs.aloadN d1_44 rfl <| Runs.bipush d1_45 cb_16 <| Runs.newArr (j' := 6) (top' := a + 1 + 6) (k' := 6) (n' := 96) d1_47 d1_49 fA_5 w21 rfl w9 (Or.inr ⟨rfl, rfl⟩) rfl (by decide) ⟨by decide, by decide⟩ ⟨fun _ => rfl, fun _ => rfl⟩ rfl rfl rfl (by decide) <| Runs.aloadN d1_52 rfl <| Runs.bipush d1_53 cb_40 <| Runs.newArr (j' := 7) (top' := a + 1 + 7) (k' := 7) (n' := 136) d1_55 d1_57 fA_6 w23 rfl w9 (Or.inr ⟨rfl, rfl⟩) rfl (by decide) ⟨by decide, by decide⟩ ⟨fun _ => rfl, fun _ => rfl⟩ rfl rfl rfl (by decide) <| Runs.aloadN d1_60 rfl <| ?_
  refine Runs.bipush d1_61 cb_16 <| Runs.newArr (j' := 8) (top' := a + 1 + 8) (k' := 8) (n' := 152) d1_63 d1_65 fA_7 w25 rfl w9 (Or.inr ⟨rfl, rfl⟩) rfl (by decide) ⟨by decide, by decide⟩ ⟨fun _ => rfl, fun _ => rfl⟩ rfl rfl rfl (by decide) <| Runs.aloadN d1_68 rfl <| Runs.bipush d1_69 cb_16 <| Runs.newArr (j' := 9) (top' := a + 1 + 9) (k' := 9) (n' := 168) d1_71 d1_73 fA_8 w27 rfl w9 (Or.inr ⟨rfl, rfl⟩) rfl (by decide) ⟨by decide, by decide⟩ ⟨fun _ => rfl, fun _ => rfl⟩ rfl rfl rfl (by decide) <| Runs.aloadN d1_76 rfl <| Runs.bipush d1_77 cb_16 <| Runs.newArr (j' := 10) (top' := a + 1 + 10) (k' := 10) (n' := 184) d1_79 d1_81 fA_9 w29 rfl w9 (Or.inr ⟨rfl, rfl⟩) rfl (by decide) ⟨by decide, by decide⟩ ⟨fun _ => rfl, fun _ => rfl⟩ rfl rfl rfl (by decide) <| Runs.aloadN d1_84 rfl <| Runs.bipush d1_85 cb_16 <| Runs.newArr (j' := 11) (top' := a + 1 + 11) (k' := 11) (n' := 200) d1_87 d1_89 fA_10 w31 rfl w9 (Or.inr ⟨rfl, rfl⟩) rfl (by decide) ⟨by decide, by decide⟩ ⟨fun _ => rfl, fun _ => rfl⟩ rfl rfl rfl (by decide) <| Runs.aloadN d1_92 rfl <| ?_
  refine Runs.bipush d1_93 cb_16 <| Runs.newArr (j' := 12) (top' := a + 1 + 12) (k' := 12) (n' := 216) d1_95 d1_97 fA_11 w33 rfl w9 (Or.inr ⟨rfl, rfl⟩) rfl (by decide) ⟨by decide, by decide⟩ ⟨fun _ => rfl, fun _ => rfl⟩ rfl rfl rfl (by decide) <| Runs.aloadN d1_100 rfl <| Runs.bipush d1_101 cb_16 <| Runs.newArr (j' := 13) (top' := a + 1 + 13) (k' := 13) (n' := 232) d1_103 d1_105 fA_12 w35 rfl w9 (Or.inr ⟨rfl, rfl⟩) rfl (by decide) ⟨by decide, by decide⟩ ⟨fun _ => rfl, fun _ => rfl⟩ rfl rfl rfl (by decide) <| Runs.aloadN d1_108 rfl <| Runs.bipush d1_109 cb_12 <| Runs.newArr (j' := 14) (top' := a + 1 + 14) (k' := 14) (n' := 244) d1_111 d1_113 fA_13 w37 rfl w9 (Or.inr ⟨rfl, rfl⟩) rfl (by decide) ⟨by decide, by decide⟩ ⟨fun _ => rfl, fun _ => rfl⟩ rfl rfl rfl (by decide) <| Runs.aloadN d1_116 rfl <| Runs.bipush d1_117 cb_13 <| Runs.newArr (j' := 15) (top' := a + 1 + 15) (k' := 15) (n' := 257) d1_119 d1_121 fA_14 w39 rfl w9 (Or.inr ⟨rfl, rfl⟩) rfl (by decide) ⟨by decide, by decide⟩ ⟨fun _ => rfl, fun _ => rfl⟩ rfl rfl rfl (by decide) <| Runs.aloadN d1_124 rfl <| ?_
  refine Runs.bipush d1_125 cb_13 <| Runs.newArr (j' := 16) (top' := a + 1 + 16) (k' := 16) (n' := 270) d1_127 d1_129 fA_15 w41 rfl w9 (Or.inr ⟨rfl, rfl⟩) rfl (by decide) ⟨by decide, by decide⟩ ⟨fun _ => rfl, fun _ => rfl⟩ rfl rfl rfl (by decide) <| Runs.aloadN d1_132 rfl <| Runs.bipush d1_133 cb_13 <| Runs.newArr (j' := 17) (top' := a + 1 + 17) (k' := 17) (n' := 283) d1_135 d1_137 fA_16 w43 rfl w12 (Or.inr ⟨rfl, rfl⟩) rfl (by decide) ⟨by decide, by decide⟩ ⟨fun _ => rfl, fun _ => rfl⟩ rfl rfl rfl (by decide) <| Runs.iloadN d1_140 rfl <| Runs.istoreN (P' := [vr a, vi i1, vi i1]) d1_141 (by decide) rfl <| Runs.iloadN d1_142 rfl <| Runs.iconst d1_143 ci_1 <| ?_
  refine ite_el hf (fun hc2 hf => ?_) (fun hc2 hf => ?_)
  · refine Runs.icN d1_144 (tlt hc2).2.1 <| ?_
    exact Runs.iconst d1_147 ci_1 <| Runs.istoreN (P' := [vr a, vi i1, vi (1 : Int32)]) d1_148 (by decide) rfl <| Runs.forget [true, false, true] rfl <| X_init_b149_p zrec (1 : Int32) hf
  · exact Runs.icY (pc' := 149) d1_144 (flt hc2).2.1 (by decide) <| Runs.forget [true, false, true] rfl <| X_init_b149_p zrec i1 hf
theorem X_init_pay {C : Ctx} {a : Nat} {H : List (Nat × Nat × Rec)} {res : Rec} {i1 : Int32} (hf : X_init i1 = some res) : Pays C B1 [.ref a, .int i1] (a + 1, (a, 0, zrec) :: H) (Ans none (a + 1 + 17, (a, 17, res) :: H)) :=
  Pays.of pnK (Nat.le_of_ble_eq_true rfl) (P := [vr a, vi i1, vn]) 1 rfl (X_init_p i1 hf)
def X_addLiteral (ob : Rec) (i1 : Int32) (i2 : Int32) : Option (Int32 × Rec) :=
  if i1 < (0 : Int32) then
    some ((-1 : Int32), ob)
  else
    if i1 < (gI ob 0) then
      if (gI ob 4) < (8 : Int32) then
        chk (8 : Int32) (gI ob 4) <|
        chk (8 : Int32) (gI ob 4) <|
        some (((gI ob 4) + (1 : Int32)), (sI (sA (sA ob 0 (gI ob 4) i1) 1 (gI ob 4) (i2 &&& 1)) 4 ((gI ob 4) + (1 : Int32))))
      else
        some ((-2 : Int32), ob)
    else
      some ((-1 : Int32), ob)
set_option maxRecDepth 65536 in
set_option maxHeartbeats 4000000 in
theorem X_addLiteral_p {C : Ctx} {top : Nat} {a : Nat} {H : List (Nat × Nat × Rec)} {res : Int32 × Rec} (ob : Rec) (i1 : Int32) (i2 : Int32) (hf : X_addLiteral ob i1 i2 = some res) : Runs C B2 0 0 0 [vr a, vi i1, vi i2] [] (top, (a, 17, ob) :: H) (Ans (some (.int res.1)) (top, (a, 17, res.2) :: H)) := by
  delta X_addLiteral at hf
  refine Runs.iloadN d2_0 rfl <| ?_
  refine ite_el hf (fun hc1 hf => ?_) (fun hc1 hf => ?_)
  · refine Runs.ifY (pc' := 12) d2_1 (tlt hc1).1 (by decide) <| ?_
    obtain rfl := Option.some.inj hf
    exact Runs.iconst d2_12 ci_m1 <| Runs.retI d2_13 rfl ⟨by decide, by decide⟩ ⟨rfl, rfl⟩
  · refine Runs.ifN d2_1 (flt hc1).1 <| ?_
    refine Runs.iloadN d2_4 rfl <| Runs.aloadN d2_5 rfl <| Runs.getI d2_6 w45 fS_0 <| ?_
    refine ite_el hf (fun hc2 hf => ?_) (fun hc2 hf => ?_)
    · refine Runs.icY (pc' := 14) d2_9 (tlt hc2).1 (by decide) <| ?_
      refine Runs.aloadN d2_14 rfl <| Runs.getI d2_15 w53 fS_4 <| Runs.bipush d2_18 cb_8 <| ?_
      refine ite_el hf (fun hc3 hf => ?_) (fun hc3 hf => ?_)
      · refine Runs.icY (pc' := 26) d2_20 (tlt hc3).1 (by decide) <| ?_
        refine Runs.aloadN d2_26 rfl <| Runs.getA d2_27 fA_0 w10 (by decide) <| Runs.aloadN d2_30 rfl <| Runs.getI d2_31 w53 fS_4 <| Runs.iloadN d2_34 rfl <| ?_
        refine chk_el hf fun hi4 hf => ?_
        refine Runs.iastoreA d2_35 fA_0 (by decide) hi4 <| Runs.aloadN d2_36 rfl <| Runs.getA d2_37 fA_1 w13 (by decide) <| Runs.aloadN d2_40 rfl <| Runs.getI d2_41 w53 fS_4 <| Runs.iloadN d2_44 rfl <| ?_
        refine chk_el hf fun hi5 hf => ?_
        obtain rfl := Option.some.inj hf
        exact Runs.bastoreA (y := (i2 &&& 1)) d2_45 fA_1 (by decide) hi5 rfl <| Runs.aloadN d2_46 rfl <| Runs.dup d2_47 rfl <| Runs.getI d2_48 w53 fS_4 <| Runs.iconst d2_51 ci_1 <| Runs.iadd d2_52 <| Runs.putI d2_53 w53 fS_4 (Or.inl w54) <| Runs.aloadN d2_56 rfl <| Runs.getI d2_57 w53 fS_4 <| Runs.retI d2_60 rfl ⟨by decide, by decide⟩ ⟨rfl, rfl⟩
      · refine Runs.icN d2_20 (flt hc3).1 <| ?_
        obtain rfl := Option.some.inj hf
        exact Runs.bipush d2_23 cb_m2 <| Runs.retI d2_25 rfl ⟨by decide, by decide⟩ ⟨rfl, rfl⟩
    · refine Runs.icN d2_9 (flt hc2).1 <| ?_
      obtain rfl := Option.some.inj hf
      exact Runs.iconst d2_12 ci_m1 <| Runs.retI d2_13 rfl ⟨by decide, by decide⟩ ⟨rfl, rfl⟩
theorem X_addLiteral_pay {C : Ctx} {top : Nat} {a : Nat} {H : List (Nat × Nat × Rec)} {res : Int32 × Rec} {ob : Rec} {i1 : Int32} {i2 : Int32} (hf : X_addLiteral ob i1 i2 = some res) : Pays C B2 [.ref a, .int i1, .int i2] (top, (a, 17, ob) :: H) (Ans (some (.int res.1)) (top, (a, 17, res.2) :: H)) :=
  Pays.of pnK (Nat.le_of_ble_eq_true rfl) (P := [vr a, vi i1, vi i2]) 0 rfl (X_addLiteral_p ob i1 i2 hf)
def X_pendingMask_w4 (NF : Nat) (ob : Rec) (k4 : Int32 → Int32 → Int32 → Option (Int32)) (i1 : Int32) (i2 : Int32) (i3 : Int32) : Option (Int32) :=
  if i3 < (gI ob 4) then
    if i3 < (8 : Int32) then
      chk (8 : Int32) i3 <|
      if (gA ob 1 i3) = i1 then
        chk (8 : Int32) i3 <|
        k4 i1 (i2 ||| ((1 : Int32) <<< ((gA ob 0 i3) &&& 31))) (i3 + (1 : Int32))
      else
        k4 i1 i2 (i3 + (1 : Int32))
    else
      some (i2 &&& (gI ob 1))
  else
    some (i2 &&& (gI ob 1))
def X_pendingMask_l4 (NF : Nat) (ob : Rec) : Nat → Int32 → Int32 → Int32 → Option (Int32)
  | 0, _, _, _ => none
  | n + 1, i1, i2, i3 => X_pendingMask_w4 NF ob (X_pendingMask_l4 NF ob n) i1 i2 i3
set_option maxRecDepth 65536 in
set_option maxHeartbeats 4000000 in
theorem X_pendingMask_w4_p {C : Ctx} {top : Nat} {a : Nat} {H : List (Nat × Nat × Rec)} {ob : Rec} {res : Int32} {NF : Nat} (k4 : Int32 → Int32 → Int32 → Option (Int32)) (hk4 : ∀ (i1 : Int32) (i2 : Int32) (i3 : Int32), k4 i1 i2 i3 = some res → Runs C B4 0 0 4 [vr a, vi i1, vi i2, vi i3] [] (top, (a, 17, ob) :: H) (Ans (some (.int res)) (top, (a, 17, ob) :: H))) (i1 : Int32) (i2 : Int32) (i3 : Int32) (hf : X_pendingMask_w4 NF ob k4 i1 i2 i3 = some res) : Runs C B4 0 0 4 [vr a, vi i1, vi i2, vi i3] [] (top, (a, 17, ob) :: H) (Ans (some (.int res)) (top, (a, 17, ob) :: H)) := by
  delta X_pendingMask_w4 at hf
  refine Runs.iloadN d4_4 rfl <| Runs.aloadN d4_5 rfl <| Runs.getI d4_6 w53 fS_4 <| ?_
  refine ite_el hf (fun hc1 hf => ?_) (fun hc1 hf => ?_)
  · refine Runs.icN d4_9 (tlt hc1).2.1 <| ?_
    refine Runs.iloadN d4_12 rfl <| Runs.bipush d4_13 cb_8 <| ?_
    refine ite_el hf (fun hc2 hf => ?_) (fun hc2 hf => ?_)
    · refine Runs.icN d4_15 (tlt hc2).2.1 <| ?_
      refine Runs.aloadN d4_18 rfl <| Runs.getA d4_19 fA_1 w13 (by decide) <| Runs.iloadN d4_22 rfl <| ?_
      refine chk_el hf fun hi3 hf => ?_
      refine Runs.baloadA d4_23 fA_1 (by decide) hi3 <| Runs.iloadN d4_24 rfl <| ?_
      refine ite_el hf (fun hc4 hf => ?_) (fun hc4 hf => ?_)
      · refine Runs.icN d4_25 (teq hc4).2 <| ?_
        refine Runs.iloadN d4_28 rfl <| Runs.iconst d4_29 ci_1 <| Runs.aloadN d4_30 rfl <| Runs.getA d4_31 fA_0 w10 (by decide) <| Runs.iloadN d4_34 rfl <| ?_
        refine chk_el hf fun hi5 hf => ?_
        exact Runs.ialoadA d4_35 fA_0 (by decide) hi5 <| Runs.ishl d4_36 <| Runs.ior d4_37 <| Runs.istoreN (P' := [vr a, vi i1, vi (i2 ||| ((1 : Int32) <<< ((gA ob 0 i3) &&& 31))), vi i3]) d4_38 (by decide) rfl <| Runs.iinc (P' := [vr a, vi i1, vi (i2 ||| ((1 : Int32) <<< ((gA ob 0 i3) &&& 31))), vi (i3 + (1 : Int32))]) d4_39 ci_1 rfl (by decide) rfl <| Runs.goto (pc' := 4) d4_42 (by decide) <| hk4 i1 (i2 ||| ((1 : Int32) <<< ((gA ob 0 i3) &&& 31))) (i3 + (1 : Int32)) hf
      · refine Runs.icY (pc' := 39) d4_25 (feq hc4).2 (by decide) <| ?_
        exact Runs.iinc (P' := [vr a, vi i1, vi i2, vi (i3 + (1 : Int32))]) d4_39 ci_1 rfl (by decide) rfl <| Runs.goto (pc' := 4) d4_42 (by decide) <| hk4 i1 i2 (i3 + (1 : Int32)) hf
    · refine Runs.icY (pc' := 45) d4_15 (flt hc2).2.1 (by decide) <| ?_
      obtain rfl := Option.some.inj hf
      exact Runs.iloadN d4_45 rfl <| Runs.aloadN d4_46 rfl <| Runs.getI d4_47 w47 fS_1 <| Runs.iand d4_50 <| Runs.retI d4_51 rfl ⟨by decide, by decide⟩ ⟨rfl, rfl⟩
  · refine Runs.icY (pc' := 45) d4_9 (flt hc1).2.1 (by decide) <| ?_
    obtain rfl := Option.some.inj hf
    exact Runs.iloadN d4_45 rfl <| Runs.aloadN d4_46 rfl <| Runs.getI d4_47 w47 fS_1 <| Runs.iand d4_50 <| Runs.retI d4_51 rfl ⟨by decide, by decide⟩ ⟨rfl, rfl⟩
theorem X_pendingMask_l4_p {C : Ctx} {top : Nat} {a : Nat} {H : List (Nat × Nat × Rec)} {ob : Rec} {res : Int32} {NF : Nat} (n : Nat) (i1 : Int32) (i2 : Int32) (i3 : Int32) (hf : X_pendingMask_l4 NF ob n i1 i2 i3 = some res) : Runs C B4 0 0 4 [vr a, vi i1, vi i2, vi i3] [] (top, (a, 17, ob) :: H) (Ans (some (.int res)) (top, (a, 17, ob) :: H)) := by
  induction n generalizing i1 i2 i3 with
  | zero => cases (show (none : Option (Int32)) = some res from hf)
  | succ n ih => exact X_pendingMask_w4_p (X_pendingMask_l4 NF ob n) (fun i1 i2 i3 h => ih _ _ _ h) i1 i2 i3 hf
def X_pendingMask (NF : Nat) (ob : Rec) (i1 : Int32) : Option (Int32) :=
  X_pendingMask_l4 NF ob NF i1 (0 : Int32) (0 : Int32)
set_option maxRecDepth 65536 in
set_option maxHeartbeats 4000000 in
theorem X_pendingMask_p {C : Ctx} {top : Nat} {a : Nat} {H : List (Nat × Nat × Rec)} {ob : Rec} {res : Int32} {NF : Nat} (i1 : Int32) (hf : X_pendingMask NF ob i1 = some res) : Runs C B4 0 0 0 [vr a, vi i1, vn, vn] [] (top, (a, 17, ob) :: H) (Ans (some (.int res)) (top, (a, 17, ob) :: H)) := by
  delta X_pendingMask at hf
  exact Runs.iconst d4_0 ci_0 <| Runs.istoreN (P' := [vr a, vi i1, vi (0 : Int32), vn]) d4_1 (by decide) rfl <| Runs.iconst d4_2 ci_0 <| Runs.istoreN (P' := [vr a, vi i1, vi (0 : Int32), vi (0 : Int32)]) d4_3 (by decide) rfl <| X_pendingMask_l4_p NF i1 (0 : Int32) (0 : Int32) hf
theorem X_pendingMask_pay {C : Ctx} {top : Nat} {a : Nat} {H : List (Nat × Nat × Rec)} {ob : Rec} {res : Int32} {NF : Nat} {i1 : Int32} (hf : X_pendingMask NF ob i1 = some res) : Pays C B4 [.ref a, .int i1] (top, (a, 17, ob) :: H) (Ans (some (.int res)) (top, (a, 17, ob) :: H)) :=
  Pays.of pnK (Nat.le_of_ble_eq_true rfl) (P := [vr a, vi i1, vn, vn]) 2 rfl (X_pendingMask_p i1 hf)
def X_pushOrder (ob : Rec) (i1 : Int32) : Option (Rec) :=
  if (gI ob 7) < (0 : Int32) then
    some ob
  else
    if (gI ob 7) < (40 : Int32) then
      chk (40 : Int32) (gI ob 7) <|
      some (sI (sA ob 6 (gI ob 7) i1) 7 ((gI ob 7) + (1 : Int32)))
    else
      some ob
set_option maxRecDepth 65536 in
set_option maxHeartbeats 4000000 in
theorem X_pushOrder_p {C : Ctx} {top : Nat} {a : Nat} {H : List (Nat × Nat × Rec)} {res : Rec} (ob : Rec) (i1 : Int32) (hf : X_pushOrder ob i1 = some res) : Runs C B5 0 0 0 [vr a, vi i1] [] (top, (a, 17, ob) :: H) (Ans none (top, (a, 17, res) :: H)) := by
  delta X_pushOrder at hf
  refine Runs.aloadN d5_0 rfl <| Runs.getI d5_1 w59 fS_7 <| ?_
  refine ite_el hf (fun hc1 hf => ?_) (fun hc1 hf => ?_)
  · refine Runs.ifY (pc' := 16) d5_4 (tlt hc1).1 (by decide) <| ?_
    obtain rfl := Option.some.inj hf
    exact Runs.retV d5_16 rfl ⟨by decide, by decide⟩ ⟨rfl, rfl⟩
  · refine Runs.ifN d5_4 (flt hc1).1 <| ?_
    refine Runs.aloadN d5_7 rfl <| Runs.getI d5_8 w59 fS_7 <| Runs.bipush d5_11 cb_40 <| ?_
    refine ite_el hf (fun hc2 hf => ?_) (fun hc2 hf => ?_)
    · refine Runs.icY (pc' := 17) d5_13 (tlt hc2).1 (by decide) <| ?_
      refine Runs.aloadN d5_17 rfl <| Runs.getA d5_18 fA_6 w23 (by decide) <| Runs.aloadN d5_21 rfl <| Runs.getI d5_22 w59 fS_7 <| Runs.iloadN d5_25 rfl <| ?_
      refine chk_el hf fun hi3 hf => ?_
      obtain rfl := Option.some.inj hf
      exact Runs.iastoreA d5_26 fA_6 (by decide) hi3 <| Runs.aloadN d5_27 rfl <| Runs.dup d5_28 rfl <| Runs.getI d5_29 w59 fS_7 <| Runs.iconst d5_32 ci_1 <| Runs.iadd d5_33 <| Runs.putI d5_34 w59 fS_7 (Or.inl w60) <| Runs.retV d5_37 rfl ⟨by decide, by decide⟩ ⟨rfl, rfl⟩
    · refine Runs.icN d5_13 (flt hc2).1 <| ?_
      obtain rfl := Option.some.inj hf
      exact Runs.retV d5_16 rfl ⟨by decide, by decide⟩ ⟨rfl, rfl⟩
theorem X_pushOrder_pay {C : Ctx} {top : Nat} {a : Nat} {H : List (Nat × Nat × Rec)} {res : Rec} {ob : Rec} {i1 : Int32} (hf : X_pushOrder ob i1 = some res) : Pays C B5 [.ref a, .int i1] (top, (a, 17, ob) :: H) (Ans none (top, (a, 17, res) :: H)) :=
  Pays.of pnK (Nat.le_of_ble_eq_true rfl) (P := [vr a, vi i1]) 0 rfl (X_pushOrder_p ob i1 hf)
def X_commitClause (NF : Nat) (ob : Rec) : Option (Int32 × Rec) :=
  if (gI ob 5) < (24 : Int32) then
    if (gI ob 7) < (40 : Int32) then
      (X_pendingMask NF ob (0 : Int32)).bind fun r3 =>
      chk (24 : Int32) (gI ob 5) <|
      (X_pendingMask NF (sA ob 2 (gI ob 5) r3) (1 : Int32)).bind fun r6 =>
      chk (24 : Int32) (gI ob 5) <|
      (X_pushOrder (sI (sA (sA ob 2 (gI ob 5) r3) 3 (gI ob 5) r6) 5 ((gI ob 5) + (1 : Int32))) (1 : Int32)).bind fun q9 =>
      some ((gI ob 5), (sI (sI q9 4 (0 : Int32)) 2 (2 : Int32)))
    else
      some ((-2 : Int32), ob)
  else
    some ((-2 : Int32), ob)
set_option maxRecDepth 65536 in
set_option maxHeartbeats 4000000 in
theorem X_commitClause_p {C : Ctx} {top : Nat} {a : Nat} {H : List (Nat × Nat × Rec)} {res : Int32 × Rec} {NF : Nat} (ob : Rec) (hf : X_commitClause NF ob = some res) : Runs C B3 0 0 0 [vr a, vn] [] (top, (a, 17, ob) :: H) (Ans (some (.int res.1)) (top, (a, 17, res.2) :: H)) := by
  delta X_commitClause at hf
  refine Runs.aloadN d3_0 rfl <| Runs.getI d3_1 w55 fS_5 <| Runs.bipush d3_4 cb_24 <| ?_
  refine ite_el hf (fun hc1 hf => ?_) (fun hc1 hf => ?_)
  · refine Runs.icY (pc' := 12) d3_6 (tlt hc1).1 (by decide) <| ?_
    refine Runs.aloadN d3_12 rfl <| Runs.getI d3_13 w59 fS_7 <| Runs.bipush d3_16 cb_40 <| ?_
    refine ite_el hf (fun hc2 hf => ?_) (fun hc2 hf => ?_)
    · refine Runs.icY (pc' := 24) d3_18 (tlt hc2).1 (by decide) <| ?_
      refine Runs.aloadN d3_24 rfl <| Runs.getI d3_25 w55 fS_5 <| Runs.istoreN (P' := [vr a, vi (gI ob 5)]) d3_28 (by decide) rfl <| Runs.aloadN d3_29 rfl <| Runs.getA d3_30 fA_2 w15 (by decide) <| Runs.iloadN d3_33 rfl <| Runs.aloadN d3_34 rfl <| Runs.iconst d3_35 ci_0 <| ?_
      refine bind_el hf fun r3 hg4 hf => ?_
      refine Runs.callP (N := B4) (W := 2) (as := [.int (0 : Int32)]) (S' := [.int (gI ob 5), .ref (a + 1 + 2)]) d3_36 w77 w78 w79 rfl cw4 ar4 rk3_4_2 (by decide) rfl rfl (X_pendingMask_pay hg4) <| ans1 <| ?_
      refine chk_el hf fun hi5 hf => ?_
      refine Runs.iastoreA d3_39 fA_2 (by decide) hi5 <| Runs.aloadN d3_40 rfl <| Runs.getA d3_41 fA_3 w17 (by decide) <| Runs.iloadN d3_44 rfl <| Runs.aloadN d3_45 rfl <| Runs.iconst d3_46 ci_1 <| ?_
      refine bind_el hf fun r6 hg7 hf => ?_
      refine Runs.callP (N := B4) (W := 2) (as := [.int (1 : Int32)]) (S' := [.int (gI ob 5), .ref (a + 1 + 3)]) d3_47 w77 w78 w79 rfl cw4 ar4 rk3_4_2 (by decide) rfl rfl (X_pendingMask_pay hg7) <| ans1 <| ?_
      refine chk_el hf fun hi8 hf => ?_
      refine Runs.iastoreA d3_50 fA_3 (by decide) hi8 <| Runs.aloadN d3_51 rfl <| Runs.dup d3_52 rfl <| Runs.getI d3_53 w55 fS_5 <| Runs.iconst d3_56 ci_1 <| Runs.iadd d3_57 <| Runs.putI d3_58 w55 fS_5 (Or.inl w56) <| Runs.aloadN d3_61 rfl <| Runs.iconst d3_62 ci_1 <| ?_
      refine bind_el hf fun q9 hg10 hf => ?_
      obtain rfl := Option.some.inj hf
      exact Runs.callP (N := B5) (W := 0) (as := [.int (1 : Int32)]) (S' := []) d3_63 w81 w82 w83 rfl cw5 ar5 rk3_5_0 (by decide) rfl rfl (X_pushOrder_pay hg10) <| ans0 <| Runs.aloadN d3_66 rfl <| Runs.iconst d3_67 ci_0 <| Runs.putI d3_68 w53 fS_4 (Or.inl w54) <| Runs.aloadN d3_71 rfl <| Runs.iconst d3_72 ci_2 <| Runs.putI d3_73 w49 fS_2 (Or.inl w50) <| Runs.iloadN d3_76 rfl <| Runs.retI d3_77 rfl ⟨by decide, by decide⟩ ⟨rfl, rfl⟩
    · refine Runs.icN d3_18 (flt hc2).1 <| ?_
      obtain rfl := Option.some.inj hf
      exact Runs.bipush d3_21 cb_m2 <| Runs.retI d3_23 rfl ⟨by decide, by decide⟩ ⟨rfl, rfl⟩
  · refine Runs.icN d3_6 (flt hc1).1 <| ?_
    obtain rfl := Option.some.inj hf
    exact Runs.bipush d3_9 cb_m2 <| Runs.retI d3_11 rfl ⟨by decide, by decide⟩ ⟨rfl, rfl⟩
theorem X_commitClause_pay {C : Ctx} {top : Nat} {a : Nat} {H : List (Nat × Nat × Rec)} {res : Int32 × Rec} {NF : Nat} {ob : Rec} (hf : X_commitClause NF ob = some res) : Pays C B3 [.ref a] (top, (a, 17, ob) :: H) (Ans (some (.int res.1)) (top, (a, 17, res.2) :: H)) :=
  Pays.of pnK (Nat.le_of_ble_eq_true rfl) (P := [vr a, vn]) 1 rfl (X_commitClause_p ob hf)
def X_pendingLength (ob : Rec) : Option (Int32) :=
  some (gI ob 4)
set_option maxRecDepth 65536 in
set_option maxHeartbeats 4000000 in
theorem X_pendingLength_p {C : Ctx} {top : Nat} {a : Nat} {H : List (Nat × Nat × Rec)} {ob : Rec} {res : Int32} (hf : X_pendingLength ob = some res) : Runs C B6 0 0 0 [vr a] [] (top, (a, 17, ob) :: H) (Ans (some (.int res)) (top, (a, 17, ob) :: H)) := by
  delta X_pendingLength at hf
  obtain rfl := Option.some.inj hf
  exact Runs.aloadN d6_0 rfl <| Runs.getI d6_1 w53 fS_4 <| Runs.retI d6_4 rfl ⟨by decide, by decide⟩ ⟨rfl, rfl⟩
theorem X_pendingLength_pay {C : Ctx} {top : Nat} {a : Nat} {H : List (Nat × Nat × Rec)} {ob : Rec} {res : Int32} (hf : X_pendingLength ob = some res) : Pays C B6 [.ref a] (top, (a, 17, ob) :: H) (Ans (some (.int res)) (top, (a, 17, ob) :: H)) :=
  Pays.of pnK (Nat.le_of_ble_eq_true rfl) (P := [vr a]) 0 rfl (X_pendingLength_p hf)
def X_clauseCount (ob : Rec) : Option (Int32) :=
  some (gI ob 5)
set_option maxRecDepth 65536 in
set_option maxHeartbeats 4000000 in
theorem X_clauseCount_p {C : Ctx} {top : Nat} {a : Nat} {H : List (Nat × Nat × Rec)} {ob : Rec} {res : Int32} (hf : X_clauseCount ob = some res) : Runs C B7 0 0 0 [vr a] [] (top, (a, 17, ob) :: H) (Ans (some (.int res)) (top, (a, 17, ob) :: H)) := by
  delta X_clauseCount at hf
  obtain rfl := Option.some.inj hf
  exact Runs.aloadN d7_0 rfl <| Runs.getI d7_1 w55 fS_5 <| Runs.retI d7_4 rfl ⟨by decide, by decide⟩ ⟨rfl, rfl⟩
theorem X_clauseCount_pay {C : Ctx} {top : Nat} {a : Nat} {H : List (Nat × Nat × Rec)} {ob : Rec} {res : Int32} (hf : X_clauseCount ob = some res) : Pays C B7 [.ref a] (top, (a, 17, ob) :: H) (Ans (some (.int res)) (top, (a, 17, ob) :: H)) :=
  Pays.of pnK (Nat.le_of_ble_eq_true rfl) (P := [vr a]) 0 rfl (X_clauseCount_p hf)
def X_clauseHolds (ob : Rec) (i1 : Int32) (i2 : Int32) : Option (Int32) :=
  if i1 < (0 : Int32) then
    some (1 : Int32)
  else
    if i1 < (24 : Int32) then
      chk (24 : Int32) i1 <|
      chk (24 : Int32) i1 <|
      if ((i2 &&& (gA ob 2 i1)) ||| ((i2 ^^^ (-1 : Int32)) &&& (gA ob 3 i1))) = (0 : Int32) then
        some (0 : Int32)
      else
        some (1 : Int32)
    else
      some (1 : Int32)
set_option maxRecDepth 65536 in
set_option maxHeartbeats 4000000 in
theorem X_clauseHolds_p {C : Ctx} {top : Nat} {a : Nat} {H : List (Nat × Nat × Rec)} {ob : Rec} {res : Int32} (i1 : Int32) (i2 : Int32) (hf : X_clauseHolds ob i1 i2 = some res) : Runs C B9 0 0 0 [vr a, vi i1, vi i2, vn] [] (top, (a, 17, ob) :: H) (Ans (some (.int res)) (top, (a, 17, ob) :: H)) := by
  delta X_clauseHolds at hf
  refine Runs.iloadN d9_0 rfl <| ?_
  refine ite_el hf (fun hc1 hf => ?_) (fun hc1 hf => ?_)
  · refine Runs.ifY (pc' := 10) d9_1 (tlt hc1).1 (by decide) <| ?_
    obtain rfl := Option.some.inj hf
    exact Runs.iconst d9_10 ci_1 <| Runs.retZ (y := (1 : Int32)) d9_11 rfl ⟨by decide, by decide⟩ rfl ⟨rfl, rfl⟩
  · refine Runs.ifN d9_1 (flt hc1).1 <| ?_
    refine Runs.iloadN d9_4 rfl <| Runs.bipush d9_5 cb_24 <| ?_
    refine ite_el hf (fun hc2 hf => ?_) (fun hc2 hf => ?_)
    · refine Runs.icY (pc' := 12) d9_7 (tlt hc2).1 (by decide) <| ?_
      refine Runs.iloadN d9_12 rfl <| Runs.aloadN d9_13 rfl <| Runs.getA d9_14 fA_2 w15 (by decide) <| Runs.iloadN d9_17 rfl <| ?_
      refine chk_el hf fun hi3 hf => ?_
      refine Runs.ialoadA d9_18 fA_2 (by decide) hi3 <| Runs.iand d9_19 <| Runs.iloadN d9_20 rfl <| Runs.iconst d9_21 ci_m1 <| Runs.ixor d9_22 <| Runs.aloadN d9_23 rfl <| Runs.getA d9_24 fA_3 w17 (by decide) <| Runs.iloadN d9_27 rfl <| ?_
      refine chk_el hf fun hi4 hf => ?_
      refine Runs.ialoadA d9_28 fA_3 (by decide) hi4 <| Runs.iand d9_29 <| Runs.ior d9_30 <| Runs.istoreN (P' := [vr a, vi i1, vi i2, vi ((i2 &&& (gA ob 2 i1)) ||| ((i2 ^^^ (-1 : Int32)) &&& (gA ob 3 i1)))]) d9_31 (by decide) rfl <| Runs.iloadN d9_32 rfl <| ?_
      refine ite_el hf (fun hc5 hf => ?_) (fun hc5 hf => ?_)
      · refine Runs.ifY (pc' := 40) d9_33 (teq hc5).1 (by decide) <| ?_
        obtain rfl := Option.some.inj hf
        exact Runs.iconst d9_40 ci_0 <| Runs.retZ (y := (0 : Int32)) d9_41 rfl ⟨by decide, by decide⟩ rfl ⟨rfl, rfl⟩
      · refine Runs.ifN d9_33 (feq hc5).1 <| ?_
        obtain rfl := Option.some.inj hf
        exact Runs.iconst d9_36 ci_1 <| Runs.goto (pc' := 41) d9_37 (by decide) <| Runs.retZ (y := (1 : Int32)) d9_41 rfl ⟨by decide, by decide⟩ rfl ⟨rfl, rfl⟩
    · refine Runs.icN d9_7 (flt hc2).1 <| ?_
      obtain rfl := Option.some.inj hf
      exact Runs.iconst d9_10 ci_1 <| Runs.retZ (y := (1 : Int32)) d9_11 rfl ⟨by decide, by decide⟩ rfl ⟨rfl, rfl⟩
theorem X_clauseHolds_pay {C : Ctx} {top : Nat} {a : Nat} {H : List (Nat × Nat × Rec)} {ob : Rec} {res : Int32} {i1 : Int32} {i2 : Int32} (hf : X_clauseHolds ob i1 i2 = some res) : Pays C B9 [.ref a, .int i1, .int i2] (top, (a, 17, ob) :: H) (Ans (some (.int res)) (top, (a, 17, ob) :: H)) :=
  Pays.of pnK (Nat.le_of_ble_eq_true rfl) (P := [vr a, vi i1, vi i2, vn]) 1 rfl (X_clauseHolds_p i1 i2 hf)
def X_violations_b47 (NF : Nat) (ob : Rec) (i2 : Int32) (i3 : Int32) : Option (Int32) :=
  if (0 : Int32) < (gI ob 6) then
    if (0 : Int32) < (16 : Int32) then
      none
    else
      some i3
  else
    some i3
set_option maxRecDepth 65536 in
set_option maxHeartbeats 4000000 in
theorem X_violations_b47_p {C : Ctx} {top : Nat} {a : Nat} {H : List (Nat × Nat × Rec)} {ob : Rec} {res : Int32} {NF : Nat} (i2 : Int32) (i3 : Int32) (hf : X_violations_b47 NF ob i2 i3 = some res) : Runs C B8 0 0 47 [vr a, vn, vi i2, vi i3, vn] [] (top, (a, 17, ob) :: H) (Ans (some (.int res)) (top, (a, 17, ob) :: H)) := by
  delta X_violations_b47 at hf
  refine Runs.iconst d8_47 ci_0 <| Runs.istore (P' := [vr a, vn, vi i2, vi i3, vi (0 : Int32)]) d8_48 (by decide) rfl <| Runs.iload d8_50 rfl <| Runs.aloadN d8_52 rfl <| Runs.getI d8_53 w57 fS_6 <| ?_
  refine ite_el hf (fun hc6 hf => ?_) (fun hc6 hf => ?_)
  · refine Runs.icN d8_56 (tlt hc6).2.1 <| ?_
    refine Runs.iload d8_59 rfl <| Runs.bipush d8_61 cb_16 <| ?_
    refine ite_el hf (fun hc7 hf => ?_) (fun hc7 hf => ?_)
    · refine Runs.icN d8_63 (tlt hc7).2.1 <| ?_
      cases hf
    · refine Runs.icY (pc' := 85) d8_63 (flt hc7).2.1 (by decide) <| ?_
      obtain rfl := Option.some.inj hf
      exact Runs.iloadN d8_85 rfl <| Runs.retI d8_86 rfl ⟨by decide, by decide⟩ ⟨rfl, rfl⟩
  · refine Runs.icY (pc' := 85) d8_56 (flt hc6).2.1 (by decide) <| ?_
    obtain rfl := Option.some.inj hf
    exact Runs.iloadN d8_85 rfl <| Runs.retI d8_86 rfl ⟨by decide, by decide⟩ ⟨rfl, rfl⟩
def X_violations_w12 (NF : Nat) (ob : Rec) (k12 : Int32 → Int32 → Int32 → Option (Int32)) (i2 : Int32) (i3 : Int32) (i4 : Int32) : Option (Int32) :=
  if i4 < (gI ob 5) then
    if i4 < (24 : Int32) then
      (X_clauseHolds ob i4 i2).bind fun r3 =>
      if r3 = (0 : Int32) then
        k12 i2 (i3 + (1 : Int32)) (i4 + (1 : Int32))
      else
        k12 i2 i3 (i4 + (1 : Int32))
    else
      X_violations_b47 NF ob i2 i3
  else
    X_violations_b47 NF ob i2 i3
def X_violations_l12 (NF : Nat) (ob : Rec) : Nat → Int32 → Int32 → Int32 → Option (Int32)
  | 0, _, _, _ => none
  | n + 1, i2, i3, i4 => X_violations_w12 NF ob (X_violations_l12 NF ob n) i2 i3 i4
set_option maxRecDepth 65536 in
set_option maxHeartbeats 4000000 in
theorem X_violations_w12_p {C : Ctx} {top : Nat} {a : Nat} {H : List (Nat × Nat × Rec)} {ob : Rec} {res : Int32} {NF : Nat} (k12 : Int32 → Int32 → Int32 → Option (Int32)) (hk12 : ∀ (i2 : Int32) (i3 : Int32) (i4 : Int32), k12 i2 i3 i4 = some res → Runs C B8 0 0 12 [vr a, vn, vi i2, vi i3, vi i4] [] (top, (a, 17, ob) :: H) (Ans (some (.int res)) (top, (a, 17, ob) :: H))) (i2 : Int32) (i3 : Int32) (i4 : Int32) (hf : X_violations_w12 NF ob k12 i2 i3 i4 = some res) : Runs C B8 0 0 12 [vr a, vn, vi i2, vi i3, vi i4] [] (top, (a, 17, ob) :: H) (Ans (some (.int res)) (top, (a, 17, ob) :: H)) := by
  delta X_violations_w12 at hf
  refine Runs.iload d8_12 rfl <| Runs.aloadN d8_14 rfl <| Runs.getI d8_15 w55 fS_5 <| ?_
  refine ite_el hf (fun hc1 hf => ?_) (fun hc1 hf => ?_)
  · refine Runs.icN d8_18 (tlt hc1).2.1 <| ?_
    refine Runs.iload d8_21 rfl <| Runs.bipush d8_23 cb_24 <| ?_
    refine ite_el hf (fun hc2 hf => ?_) (fun hc2 hf => ?_)
    · refine Runs.icN d8_25 (tlt hc2).2.1 <| ?_
      refine Runs.aloadN d8_28 rfl <| Runs.iload d8_29 rfl <| Runs.iloadN d8_31 rfl <| ?_
      refine bind_el hf fun r3 hg4 hf => ?_
      refine Runs.callP (N := B9) (W := 0) (as := [.int i4, .int i2]) (S' := []) d8_32 w100 w101 w102 rfl cw9 ar9 rk8_9_0 (by decide) rfl rfl (X_clauseHolds_pay hg4) <| ans1 <| ?_
      refine ite_el hf (fun hc5 hf => ?_) (fun hc5 hf => ?_)
      · refine Runs.ifN d8_35 (teq hc5).2 <| ?_
        exact Runs.iinc (P' := [vr a, vn, vi i2, vi (i3 + (1 : Int32)), vi i4]) d8_38 ci_1 rfl (by decide) rfl <| Runs.iinc (P' := [vr a, vn, vi i2, vi (i3 + (1 : Int32)), vi (i4 + (1 : Int32))]) d8_41 ci_1 rfl (by decide) rfl <| Runs.goto (pc' := 12) d8_44 (by decide) <| hk12 i2 (i3 + (1 : Int32)) (i4 + (1 : Int32)) hf
      · refine Runs.ifY (pc' := 41) d8_35 (feq hc5).2 (by decide) <| ?_
        exact Runs.iinc (P' := [vr a, vn, vi i2, vi i3, vi (i4 + (1 : Int32))]) d8_41 ci_1 rfl (by decide) rfl <| Runs.goto (pc' := 12) d8_44 (by decide) <| hk12 i2 i3 (i4 + (1 : Int32)) hf
    · exact Runs.icY (pc' := 47) d8_25 (flt hc2).2.1 (by decide) <| Runs.forget [true, false, true, true, false] rfl <| X_violations_b47_p i2 i3 hf
  · exact Runs.icY (pc' := 47) d8_18 (flt hc1).2.1 (by decide) <| Runs.forget [true, false, true, true, false] rfl <| X_violations_b47_p i2 i3 hf
theorem X_violations_l12_p {C : Ctx} {top : Nat} {a : Nat} {H : List (Nat × Nat × Rec)} {ob : Rec} {res : Int32} {NF : Nat} (n : Nat) (i2 : Int32) (i3 : Int32) (i4 : Int32) (hf : X_violations_l12 NF ob n i2 i3 i4 = some res) : Runs C B8 0 0 12 [vr a, vn, vi i2, vi i3, vi i4] [] (top, (a, 17, ob) :: H) (Ans (some (.int res)) (top, (a, 17, ob) :: H)) := by
  induction n generalizing i2 i3 i4 with
  | zero => cases (show (none : Option (Int32)) = some res from hf)
  | succ n ih => exact X_violations_w12_p (X_violations_l12 NF ob n) (fun i2 i3 i4 h => ih _ _ _ h) i2 i3 i4 hf
def X_violations (NF : Nat) (ob : Rec) (i1 : Int32) : Option (Int32) :=
  X_violations_l12 NF ob NF (i1 &&& (gI ob 1)) (0 : Int32) (0 : Int32)
set_option maxRecDepth 65536 in
set_option maxHeartbeats 4000000 in
theorem X_violations_p {C : Ctx} {top : Nat} {a : Nat} {H : List (Nat × Nat × Rec)} {ob : Rec} {res : Int32} {NF : Nat} (i1 : Int32) (hf : X_violations NF ob i1 = some res) : Runs C B8 0 0 0 [vr a, vi i1, vn, vn, vn] [] (top, (a, 17, ob) :: H) (Ans (some (.int res)) (top, (a, 17, ob) :: H)) := by
  delta X_violations at hf
  exact Runs.iloadN d8_0 rfl <| Runs.aloadN d8_1 rfl <| Runs.getI d8_2 w47 fS_1 <| Runs.iand d8_5 <| Runs.istoreN (P' := [vr a, vi i1, vi (i1 &&& (gI ob 1)), vn, vn]) d8_6 (by decide) rfl <| Runs.iconst d8_7 ci_0 <| Runs.istoreN (P' := [vr a, vi i1, vi (i1 &&& (gI ob 1)), vi (0 : Int32), vn]) d8_8 (by decide) rfl <| Runs.iconst d8_9 ci_0 <| Runs.istore (P' := [vr a, vi i1, vi (i1 &&& (gI ob 1)), vi (0 : Int32), vi (0 : Int32)]) d8_10 (by decide) rfl <| Runs.forget [true, false, true, true, true] rfl <| X_violations_l12_p NF (i1 &&& (gI ob 1)) (0 : Int32) (0 : Int32) hf
theorem X_violations_pay {C : Ctx} {top : Nat} {a : Nat} {H : List (Nat × Nat × Rec)} {ob : Rec} {res : Int32} {NF : Nat} {i1 : Int32} (hf : X_violations NF ob i1 = some res) : Pays C B8 [.ref a, .int i1] (top, (a, 17, ob) :: H) (Ans (some (.int res)) (top, (a, 17, ob) :: H)) :=
  Pays.of pnK (Nat.le_of_ble_eq_true rfl) (P := [vr a, vi i1, vn, vn, vn]) 3 rfl (X_violations_p i1 hf)
def X_popConstraint (ob : Rec) : Option (Int32 × Rec) :=
  if (0 : Int32) < (gI ob 7) then
    if (40 : Int32) < (gI ob 7) then
      some ((-3 : Int32), ob)
    else
      chk (40 : Int32) ((gI ob 7) - (1 : Int32)) <|
      if (gA ob 6 ((gI ob 7) - (1 : Int32))) = (1 : Int32) then
        if (0 : Int32) < (gI ob 5) then
          some ((gA ob 6 ((gI ob 7) - (1 : Int32))), (sI (sI (sI ob 7 ((gI ob 7) - (1 : Int32))) 5 ((gI ob 5) - (1 : Int32))) 2 (2 : Int32)))
        else
          some ((gA ob 6 ((gI ob 7) - (1 : Int32))), (sI (sI ob 7 ((gI ob 7) - (1 : Int32))) 2 (2 : Int32)))
      else
        if (0 : Int32) < (gI ob 6) then
          some ((gA ob 6 ((gI ob 7) - (1 : Int32))), (sI (sI (sI (sI ob 7 ((gI ob 7) - (1 : Int32))) 6 ((gI ob 6) - (1 : Int32))) 10 (0 : Int32)) 2 (2 : Int32)))
        else
          some ((gA ob 6 ((gI ob 7) - (1 : Int32))), (sI (sI (sI ob 7 ((gI ob 7) - (1 : Int32))) 10 (0 : Int32)) 2 (2 : Int32)))
  else
    some ((-3 : Int32), ob)
set_option maxRecDepth 65536 in
set_option maxHeartbeats 4000000 in
theorem X_popConstraint_p {C : Ctx} {top : Nat} {a : Nat} {H : List (Nat × Nat × Rec)} {res : Int32 × Rec} (ob : Rec) (hf : X_popConstraint ob = some res) : Runs C B10 0 0 0 [vr a, vn] [] (top, (a, 17, ob) :: H) (Ans (some (.int res.1)) (top, (a, 17, res.2) :: H)) := by
  delta X_popConstraint at hf
  refine Runs.aloadN d10_0 rfl <| Runs.getI d10_1 w59 fS_7 <| ?_
  refine ite_el hf (fun hc1 hf => ?_) (fun hc1 hf => ?_)
  · refine Runs.ifN d10_4 (tlt hc1).2.2.2 <| ?_
    refine Runs.aloadN d10_7 rfl <| Runs.getI d10_8 w59 fS_7 <| Runs.bipush d10_11 cb_40 <| ?_
    refine ite_el hf (fun hc2 hf => ?_) (fun hc2 hf => ?_)
    · refine Runs.icN d10_13 (tlt hc2).2.2.2 <| ?_
      obtain rfl := Option.some.inj hf
      exact Runs.bipush d10_16 cb_m3 <| Runs.retI d10_18 rfl ⟨by decide, by decide⟩ ⟨rfl, rfl⟩
    · refine Runs.icY (pc' := 19) d10_13 (flt hc2).2.2.2 (by decide) <| ?_
      refine Runs.aloadN d10_19 rfl <| Runs.getA d10_20 fA_6 w23 (by decide) <| Runs.aloadN d10_23 rfl <| Runs.getI d10_24 w59 fS_7 <| Runs.iconst d10_27 ci_1 <| Runs.isub d10_28 <| ?_
      refine chk_el hf fun hi3 hf => ?_
      refine Runs.ialoadA d10_29 fA_6 (by decide) hi3 <| Runs.istoreN (P' := [vr a, vi (gA ob 6 ((gI ob 7) - (1 : Int32)))]) d10_30 (by decide) rfl <| Runs.aloadN d10_31 rfl <| Runs.dup d10_32 rfl <| Runs.getI d10_33 w59 fS_7 <| Runs.iconst d10_36 ci_1 <| Runs.isub d10_37 <| Runs.putI d10_38 w59 fS_7 (Or.inl w60) <| Runs.iloadN d10_41 rfl <| Runs.iconst d10_42 ci_1 <| ?_
      refine ite_el hf (fun hc4 hf => ?_) (fun hc4 hf => ?_)
      · refine Runs.icN d10_43 (teq hc4).2 <| ?_
        refine Runs.aloadN d10_46 rfl <| Runs.getI d10_47 w55 fS_5 <| ?_
        refine ite_el hf (fun hc5 hf => ?_) (fun hc5 hf => ?_)
        · refine Runs.ifN d10_50 (tlt hc5).2.2.2 <| ?_
          obtain rfl := Option.some.inj hf
          exact Runs.aloadN d10_53 rfl <| Runs.dup d10_54 rfl <| Runs.getI d10_55 w55 fS_5 <| Runs.iconst d10_58 ci_1 <| Runs.isub d10_59 <| Runs.putI d10_60 w55 fS_5 (Or.inl w56) <| Runs.goto (pc' := 88) d10_63 (by decide) <| Runs.aloadN d10_88 rfl <| Runs.iconst d10_89 ci_2 <| Runs.putI d10_90 w49 fS_2 (Or.inl w50) <| Runs.iloadN d10_93 rfl <| Runs.retI d10_94 rfl ⟨by decide, by decide⟩ ⟨rfl, rfl⟩
        · refine Runs.ifY (pc' := 88) d10_50 (flt hc5).2.2.2 (by decide) <| ?_
          obtain rfl := Option.some.inj hf
          exact Runs.aloadN d10_88 rfl <| Runs.iconst d10_89 ci_2 <| Runs.putI d10_90 w49 fS_2 (Or.inl w50) <| Runs.iloadN d10_93 rfl <| Runs.retI d10_94 rfl ⟨by decide, by decide⟩ ⟨rfl, rfl⟩
      · refine Runs.icY (pc' := 66) d10_43 (feq hc4).2 (by decide) <| ?_
        refine Runs.aloadN d10_66 rfl <| Runs.getI d10_67 w57 fS_6 <| ?_
        refine ite_el hf (fun hc6 hf => ?_) (fun hc6 hf => ?_)
        · refine Runs.ifN d10_70 (tlt hc6).2.2.2 <| ?_
          refine Runs.aloadN d10_73 rfl <| Runs.dup d10_74 rfl <| Runs.getI d10_75 w57 fS_6 <| Runs.iconst d10_78 ci_1 <| Runs.isub d10_79 <| Runs.putI d10_80 w57 fS_6 (Or.inl w58) <| Runs.aloadN d10_83 rfl <| Runs.iconst d10_84 ci_0 <| Runs.putZ (y := (0 : Int32)) d10_85 w61 fS_10 (Or.inl w62) rfl <| Runs.aloadN d10_88 rfl <| Runs.iconst d10_89 ci_2 <| Runs.putI d10_90 w49 fS_2 (Or.inl w50) <| ?_
          obtain rfl := Option.some.inj hf
          exact Runs.iloadN d10_93 rfl <| Runs.retI d10_94 rfl ⟨by decide, by decide⟩ ⟨rfl, rfl⟩
        · refine Runs.ifY (pc' := 83) d10_70 (flt hc6).2.2.2 (by decide) <| ?_
          obtain rfl := Option.some.inj hf
          exact Runs.aloadN d10_83 rfl <| Runs.iconst d10_84 ci_0 <| Runs.putZ (y := (0 : Int32)) d10_85 w61 fS_10 (Or.inl w62) rfl <| Runs.aloadN d10_88 rfl <| Runs.iconst d10_89 ci_2 <| Runs.putI d10_90 w49 fS_2 (Or.inl w50) <| Runs.iloadN d10_93 rfl <| Runs.retI d10_94 rfl ⟨by decide, by decide⟩ ⟨rfl, rfl⟩
  · refine Runs.ifY (pc' := 16) d10_4 (flt hc1).2.2.2 (by decide) <| ?_
    obtain rfl := Option.some.inj hf
    exact Runs.bipush d10_16 cb_m3 <| Runs.retI d10_18 rfl ⟨by decide, by decide⟩ ⟨rfl, rfl⟩
theorem X_popConstraint_pay {C : Ctx} {top : Nat} {a : Nat} {H : List (Nat × Nat × Rec)} {res : Int32 × Rec} {ob : Rec} (hf : X_popConstraint ob = some res) : Pays C B10 [.ref a] (top, (a, 17, ob) :: H) (Ans (some (.int res.1)) (top, (a, 17, res.2) :: H)) :=
  Pays.of pnK (Nat.le_of_ble_eq_true rfl) (P := [vr a, vn]) 1 rfl (X_popConstraint_p ob hf)
def X_status (ob : Rec) : Option (Int32) :=
  some (gI ob 2)
set_option maxRecDepth 65536 in
set_option maxHeartbeats 4000000 in
theorem X_status_p {C : Ctx} {top : Nat} {a : Nat} {H : List (Nat × Nat × Rec)} {ob : Rec} {res : Int32} (hf : X_status ob = some res) : Runs C B11 0 0 0 [vr a] [] (top, (a, 17, ob) :: H) (Ans (some (.int res)) (top, (a, 17, ob) :: H)) := by
  delta X_status at hf
  obtain rfl := Option.some.inj hf
  exact Runs.aloadN d11_0 rfl <| Runs.getI d11_1 w49 fS_2 <| Runs.retI d11_4 rfl ⟨by decide, by decide⟩ ⟨rfl, rfl⟩
theorem X_status_pay {C : Ctx} {top : Nat} {a : Nat} {H : List (Nat × Nat × Rec)} {ob : Rec} {res : Int32} (hf : X_status ob = some res) : Pays C B11 [.ref a] (top, (a, 17, ob) :: H) (Ans (some (.int res)) (top, (a, 17, ob) :: H)) :=
  Pays.of pnK (Nat.le_of_ble_eq_true rfl) (P := [vr a]) 0 rfl (X_status_p hf)
def L_law_b270 (NF : Nat) (ob : Rec) (t0 : Int32) (t1 : Int32) : Option (Int32) :=
  (X_status ob).bind fun r41 =>
  if r41 = (2 : Int32) then
    some (((t0 &&& t1) &&& (1 : Int32)) &&& 1)
  else
    some (((t0 &&& t1) &&& (0 : Int32)) &&& 1)
set_option maxRecDepth 65536 in
set_option maxHeartbeats 4000000 in
theorem L_law_b270_p {C : Ctx} {res : Int32} {NF : Nat} (ob : Rec) (t0 : Int32) (t1 : Int32) (hf : L_law_b270 NF ob t0 t1 = some res) : Runs C B0 18 318 270 [vn, vn, vn, vr C.2.2.1, vn, vn, vn, vn] [.int t1, .int t0] (C.2.2.1 + 1 + 17, (C.2.2.1, 17, ob) :: []) (fun v _ => v = (some (.int res))) := by
  delta L_law_b270 at hf
  refine Runs.iand d0_270 <| Runs.istore (P' := [vn, vn, vn, vr C.2.2.1, vn, vn, vn, vi (t0 &&& t1)]) d0_271 (by decide) rfl <| Runs.iload d0_273 rfl <| Runs.aloadN d0_275 rfl <| ?_
  refine bind_el hf fun r41 hg42 hf => ?_
  refine Runs.callV (N := B11) (W := 1) (as := []) (S' := [.int (t0 &&& t1)]) d0_276 w109 w110 w111 w112 cw11 ar11 rk0_11_1 (by decide) rfl rfl (X_status_pay hg42) <| ans1 <| Runs.iconst d0_279 ci_2 <| ?_
  refine ite_el hf (fun hc43 hf => ?_) (fun hc43 hf => ?_)
  · refine Runs.icN d0_280 (teq hc43).2 <| ?_
    obtain rfl := Option.some.inj hf
    exact Runs.iconst d0_283 ci_1 <| Runs.goto (pc' := 288) d0_284 (by decide) <| Runs.iand d0_288 <| Runs.istore (P' := [vn, vn, vn, vr C.2.2.1, vn, vn, vn, vi ((t0 &&& t1) &&& (1 : Int32))]) d0_289 (by decide) rfl <| Runs.iload d0_291 rfl <| Runs.retZ (y := (((t0 &&& t1) &&& (1 : Int32)) &&& 1)) d0_293 rfl ⟨by decide, by decide⟩ rfl rfl
  · refine Runs.icY (pc' := 287) d0_280 (feq hc43).2 (by decide) <| ?_
    obtain rfl := Option.some.inj hf
    exact Runs.iconst d0_287 ci_0 <| Runs.iand d0_288 <| Runs.istore (P' := [vn, vn, vn, vr C.2.2.1, vn, vn, vn, vi ((t0 &&& t1) &&& (0 : Int32))]) d0_289 (by decide) rfl <| Runs.iload d0_291 rfl <| Runs.retZ (y := (((t0 &&& t1) &&& (0 : Int32)) &&& 1)) d0_293 rfl ⟨by decide, by decide⟩ rfl rfl
def L_law_b253 (NF : Nat) (ob : Rec) (t0 : Int32) (t1 : Int32) : Option (Int32) :=
  (X_clauseCount ob).bind fun r38 =>
  if r38 = (0 : Int32) then
    L_law_b270 NF ob (t0 &&& t1) (1 : Int32)
  else
    L_law_b270 NF ob (t0 &&& t1) (0 : Int32)
set_option maxRecDepth 65536 in
set_option maxHeartbeats 4000000 in
theorem L_law_b253_p {C : Ctx} {res : Int32} {NF : Nat} (ob : Rec) (t0 : Int32) (t1 : Int32) (hf : L_law_b253 NF ob t0 t1 = some res) : Runs C B0 18 318 253 [vn, vn, vn, vr C.2.2.1, vn, vn, vn, vn] [.int t1, .int t0] (C.2.2.1 + 1 + 17, (C.2.2.1, 17, ob) :: []) (fun v _ => v = (some (.int res))) := by
  delta L_law_b253 at hf
  refine Runs.iand d0_253 <| Runs.istore (P' := [vn, vn, vn, vr C.2.2.1, vn, vn, vn, vi (t0 &&& t1)]) d0_254 (by decide) rfl <| Runs.iload d0_256 rfl <| Runs.aloadN d0_258 rfl <| ?_
  refine bind_el hf fun r38 hg39 hf => ?_
  refine Runs.callV (N := B7) (W := 1) (as := []) (S' := [.int (t0 &&& t1)]) d0_259 w90 w91 w92 w93 cw7 ar7 rk0_7_1 (by decide) rfl rfl (X_clauseCount_pay hg39) <| ans1 <| ?_
  refine ite_el hf (fun hc40 hf => ?_) (fun hc40 hf => ?_)
  · refine Runs.ifN d0_262 (teq hc40).2 <| ?_
    exact Runs.iconst d0_265 ci_1 <| Runs.goto (pc' := 270) d0_266 (by decide) <| Runs.forget [false, false, false, true, false, false, false, false] rfl <| L_law_b270_p ob (t0 &&& t1) (1 : Int32) hf
  · refine Runs.ifY (pc' := 269) d0_262 (feq hc40).2 (by decide) <| ?_
    exact Runs.iconst d0_269 ci_0 <| Runs.forget [false, false, false, true, false, false, false, false] rfl <| L_law_b270_p ob (t0 &&& t1) (0 : Int32) hf
def L_law_b235 (NF : Nat) (ob : Rec) (t0 : Int32) (t1 : Int32) : Option (Int32) :=
  bind2 (X_popConstraint ob) fun r34 q35 =>
  if r34 = (1 : Int32) then
    L_law_b253 NF q35 (t0 &&& t1) (1 : Int32)
  else
    L_law_b253 NF q35 (t0 &&& t1) (0 : Int32)
set_option maxRecDepth 65536 in
set_option maxHeartbeats 4000000 in
theorem L_law_b235_p {C : Ctx} {res : Int32} {NF : Nat} (ob : Rec) (t0 : Int32) (t1 : Int32) (hf : L_law_b235 NF ob t0 t1 = some res) : Runs C B0 18 318 235 [vn, vn, vn, vr C.2.2.1, vn, vn, vn, vn] [.int t1, .int t0] (C.2.2.1 + 1 + 17, (C.2.2.1, 17, ob) :: []) (fun v _ => v = (some (.int res))) := by
  delta L_law_b235 at hf
  refine Runs.iand d0_235 <| Runs.istore (P' := [vn, vn, vn, vr C.2.2.1, vn, vn, vn, vi (t0 &&& t1)]) d0_236 (by decide) rfl <| Runs.iload d0_238 rfl <| Runs.aloadN d0_240 rfl <| ?_
  refine bind2_el hf fun r34 q35 hg36 hf => ?_
  refine Runs.callV (N := B10) (W := 1) (as := []) (S' := [.int (t0 &&& t1)]) d0_241 w104 w105 w106 w107 cw10 ar10 rk0_10_1 (by decide) rfl rfl (X_popConstraint_pay hg36) <| ans1 <| Runs.iconst d0_244 ci_1 <| ?_
  refine ite_el hf (fun hc37 hf => ?_) (fun hc37 hf => ?_)
  · refine Runs.icN d0_245 (teq hc37).2 <| ?_
    exact Runs.iconst d0_248 ci_1 <| Runs.goto (pc' := 253) d0_249 (by decide) <| Runs.forget [false, false, false, true, false, false, false, false] rfl <| L_law_b253_p q35 (t0 &&& t1) (1 : Int32) hf
  · refine Runs.icY (pc' := 252) d0_245 (feq hc37).2 (by decide) <| ?_
    exact Runs.iconst d0_252 ci_0 <| Runs.forget [false, false, false, true, false, false, false, false] rfl <| L_law_b253_p q35 (t0 &&& t1) (0 : Int32) hf
def L_law_b227 (NF : Nat) (ob : Rec) (t0 : Int32) (t1 : Int32) (t2 : Int32) : Option (Int32) :=
  if t1 = t2 then
    L_law_b235 NF ob t0 (1 : Int32)
  else
    L_law_b235 NF ob t0 (0 : Int32)
set_option maxRecDepth 65536 in
set_option maxHeartbeats 4000000 in
theorem L_law_b227_p {C : Ctx} {res : Int32} {NF : Nat} (ob : Rec) (t0 : Int32) (t1 : Int32) (t2 : Int32) (hf : L_law_b227 NF ob t0 t1 t2 = some res) : Runs C B0 18 318 227 [vn, vn, vn, vr C.2.2.1, vn, vn, vn, vn] [.int t2, .int t1, .int t0] (C.2.2.1 + 1 + 17, (C.2.2.1, 17, ob) :: []) (fun v _ => v = (some (.int res))) := by
  delta L_law_b227 at hf
  refine ite_el hf (fun hc33 hf => ?_) (fun hc33 hf => ?_)
  · refine Runs.icN d0_227 (teq hc33).2 <| ?_
    exact Runs.iconst d0_230 ci_1 <| Runs.goto (pc' := 235) d0_231 (by decide) <| L_law_b235_p ob t0 (1 : Int32) hf
  · refine Runs.icY (pc' := 234) d0_227 (feq hc33).2 (by decide) <| ?_
    exact Runs.iconst d0_234 ci_0 <| L_law_b235_p ob t0 (0 : Int32) hf
def L_law_b207 (NF : Nat) (ob : Rec) (i5 : Int32) (t0 : Int32) (t1 : Int32) : Option (Int32) :=
  (X_violations NF ob (-1 : Int32)).bind fun r30 =>
  if i5 = (0 : Int32) then
    L_law_b227 NF ob (t0 &&& t1) r30 (1 : Int32)
  else
    L_law_b227 NF ob (t0 &&& t1) r30 (0 : Int32)
set_option maxRecDepth 65536 in
set_option maxHeartbeats 4000000 in
theorem L_law_b207_p {C : Ctx} {res : Int32} {NF : Nat} (ob : Rec) (i5 : Int32) (t0 : Int32) (t1 : Int32) (hf : L_law_b207 NF ob i5 t0 t1 = some res) : Runs C B0 18 318 207 [vn, vn, vn, vr C.2.2.1, vn, vi i5, vn, vn] [.int t1, .int t0] (C.2.2.1 + 1 + 17, (C.2.2.1, 17, ob) :: []) (fun v _ => v = (some (.int res))) := by
  delta L_law_b207 at hf
  refine Runs.iand d0_207 <| Runs.istore (P' := [vn, vn, vn, vr C.2.2.1, vn, vi i5, vn, vi (t0 &&& t1)]) d0_208 (by decide) rfl <| Runs.iload d0_210 rfl <| Runs.aloadN d0_212 rfl <| Runs.iconst d0_213 ci_m1 <| ?_
  refine bind_el hf fun r30 hg31 hf => ?_
  refine Runs.callV (N := B8) (W := 1) (as := [.int (-1 : Int32)]) (S' := [.int (t0 &&& t1)]) d0_214 w95 w96 w97 w98 cw8 ar8 rk0_8_1 (by decide) rfl rfl (X_violations_pay hg31) <| ans1 <| Runs.iload d0_217 rfl <| ?_
  refine ite_el hf (fun hc32 hf => ?_) (fun hc32 hf => ?_)
  · refine Runs.ifY (pc' := 226) d0_219 (teq hc32).1 (by decide) <| ?_
    exact Runs.iconst d0_226 ci_1 <| Runs.forget [false, false, false, true, false, false, false, false] rfl <| L_law_b227_p ob (t0 &&& t1) r30 (1 : Int32) hf
  · refine Runs.ifN d0_219 (feq hc32).1 <| ?_
    exact Runs.iconst d0_222 ci_0 <| Runs.goto (pc' := 227) d0_223 (by decide) <| Runs.forget [false, false, false, true, false, false, false, false] rfl <| L_law_b227_p ob (t0 &&& t1) r30 (0 : Int32) hf
def L_law_b199 (NF : Nat) (ob : Rec) (i5 : Int32) (t0 : Int32) (t1 : Int32) (t2 : Int32) : Option (Int32) :=
  if t1 = t2 then
    L_law_b207 NF ob i5 t0 (1 : Int32)
  else
    L_law_b207 NF ob i5 t0 (0 : Int32)
set_option maxRecDepth 65536 in
set_option maxHeartbeats 4000000 in
theorem L_law_b199_p {C : Ctx} {res : Int32} {NF : Nat} (ob : Rec) (i5 : Int32) (t0 : Int32) (t1 : Int32) (t2 : Int32) (hf : L_law_b199 NF ob i5 t0 t1 t2 = some res) : Runs C B0 18 318 199 [vn, vn, vn, vr C.2.2.1, vn, vi i5, vn, vn] [.int t2, .int t1, .int t0] (C.2.2.1 + 1 + 17, (C.2.2.1, 17, ob) :: []) (fun v _ => v = (some (.int res))) := by
  delta L_law_b199 at hf
  refine ite_el hf (fun hc29 hf => ?_) (fun hc29 hf => ?_)
  · refine Runs.icN d0_199 (teq hc29).2 <| ?_
    exact Runs.iconst d0_202 ci_1 <| Runs.goto (pc' := 207) d0_203 (by decide) <| L_law_b207_p ob i5 t0 (1 : Int32) hf
  · refine Runs.icY (pc' := 206) d0_199 (feq hc29).2 (by decide) <| ?_
    exact Runs.iconst d0_206 ci_0 <| L_law_b207_p ob i5 t0 (0 : Int32) hf
def L_law_b179 (NF : Nat) (ob : Rec) (i5 : Int32) (i6 : Int32) (t0 : Int32) (t1 : Int32) : Option (Int32) :=
  (X_violations NF ob (0 : Int32)).bind fun r26 =>
  if i6 = (0 : Int32) then
    L_law_b199 NF ob i5 (t0 &&& t1) r26 (1 : Int32)
  else
    L_law_b199 NF ob i5 (t0 &&& t1) r26 (0 : Int32)
set_option maxRecDepth 65536 in
set_option maxHeartbeats 4000000 in
theorem L_law_b179_p {C : Ctx} {res : Int32} {NF : Nat} (ob : Rec) (i5 : Int32) (i6 : Int32) (t0 : Int32) (t1 : Int32) (hf : L_law_b179 NF ob i5 i6 t0 t1 = some res) : Runs C B0 18 318 179 [vn, vn, vn, vr C.2.2.1, vn, vi i5, vi i6, vn] [.int t1, .int t0] (C.2.2.1 + 1 + 17, (C.2.2.1, 17, ob) :: []) (fun v _ => v = (some (.int res))) := by
  delta L_law_b179 at hf
  refine Runs.iand d0_179 <| Runs.istore (P' := [vn, vn, vn, vr C.2.2.1, vn, vi i5, vi i6, vi (t0 &&& t1)]) d0_180 (by decide) rfl <| Runs.iload d0_182 rfl <| Runs.aloadN d0_184 rfl <| Runs.iconst d0_185 ci_0 <| ?_
  refine bind_el hf fun r26 hg27 hf => ?_
  refine Runs.callV (N := B8) (W := 1) (as := [.int (0 : Int32)]) (S' := [.int (t0 &&& t1)]) d0_186 w95 w96 w97 w98 cw8 ar8 rk0_8_1 (by decide) rfl rfl (X_violations_pay hg27) <| ans1 <| Runs.iload d0_189 rfl <| ?_
  refine ite_el hf (fun hc28 hf => ?_) (fun hc28 hf => ?_)
  · refine Runs.ifY (pc' := 198) d0_191 (teq hc28).1 (by decide) <| ?_
    exact Runs.iconst d0_198 ci_1 <| Runs.forget [false, false, false, true, false, true, false, false] rfl <| L_law_b199_p ob i5 (t0 &&& t1) r26 (1 : Int32) hf
  · refine Runs.ifN d0_191 (feq hc28).1 <| ?_
    exact Runs.iconst d0_194 ci_0 <| Runs.goto (pc' := 199) d0_195 (by decide) <| Runs.forget [false, false, false, true, false, true, false, false] rfl <| L_law_b199_p ob i5 (t0 &&& t1) r26 (0 : Int32) hf
def L_law_b161 (NF : Nat) (ob : Rec) (i5 : Int32) (i6 : Int32) (t0 : Int32) (t1 : Int32) : Option (Int32) :=
  (X_clauseCount ob).bind fun r23 =>
  if r23 = (1 : Int32) then
    L_law_b179 NF ob i5 i6 (t0 &&& t1) (1 : Int32)
  else
    L_law_b179 NF ob i5 i6 (t0 &&& t1) (0 : Int32)
set_option maxRecDepth 65536 in
set_option maxHeartbeats 4000000 in
theorem L_law_b161_p {C : Ctx} {res : Int32} {NF : Nat} (ob : Rec) (i5 : Int32) (i6 : Int32) (t0 : Int32) (t1 : Int32) (hf : L_law_b161 NF ob i5 i6 t0 t1 = some res) : Runs C B0 18 318 161 [vn, vn, vn, vr C.2.2.1, vn, vi i5, vi i6, vn] [.int t1, .int t0] (C.2.2.1 + 1 + 17, (C.2.2.1, 17, ob) :: []) (fun v _ => v = (some (.int res))) := by
  delta L_law_b161 at hf
  refine Runs.iand d0_161 <| Runs.istore (P' := [vn, vn, vn, vr C.2.2.1, vn, vi i5, vi i6, vi (t0 &&& t1)]) d0_162 (by decide) rfl <| Runs.iload d0_164 rfl <| Runs.aloadN d0_166 rfl <| ?_
  refine bind_el hf fun r23 hg24 hf => ?_
  refine Runs.callV (N := B7) (W := 1) (as := []) (S' := [.int (t0 &&& t1)]) d0_167 w90 w91 w92 w93 cw7 ar7 rk0_7_1 (by decide) rfl rfl (X_clauseCount_pay hg24) <| ans1 <| Runs.iconst d0_170 ci_1 <| ?_
  refine ite_el hf (fun hc25 hf => ?_) (fun hc25 hf => ?_)
  · refine Runs.icN d0_171 (teq hc25).2 <| ?_
    exact Runs.iconst d0_174 ci_1 <| Runs.goto (pc' := 179) d0_175 (by decide) <| Runs.forget [false, false, false, true, false, true, true, false] rfl <| L_law_b179_p ob i5 i6 (t0 &&& t1) (1 : Int32) hf
  · refine Runs.icY (pc' := 178) d0_171 (feq hc25).2 (by decide) <| ?_
    exact Runs.iconst d0_178 ci_0 <| Runs.forget [false, false, false, true, false, true, true, false] rfl <| L_law_b179_p ob i5 i6 (t0 &&& t1) (0 : Int32) hf
def L_law_b144 (NF : Nat) (ob : Rec) (i5 : Int32) (i6 : Int32) (t0 : Int32) (t1 : Int32) : Option (Int32) :=
  (X_pendingLength ob).bind fun r20 =>
  if r20 = (0 : Int32) then
    L_law_b161 NF ob i5 i6 (t0 &&& t1) (1 : Int32)
  else
    L_law_b161 NF ob i5 i6 (t0 &&& t1) (0 : Int32)
set_option maxRecDepth 65536 in
set_option maxHeartbeats 4000000 in
theorem L_law_b144_p {C : Ctx} {res : Int32} {NF : Nat} (ob : Rec) (i5 : Int32) (i6 : Int32) (t0 : Int32) (t1 : Int32) (hf : L_law_b144 NF ob i5 i6 t0 t1 = some res) : Runs C B0 18 318 144 [vn, vn, vn, vr C.2.2.1, vn, vi i5, vi i6, vn] [.int t1, .int t0] (C.2.2.1 + 1 + 17, (C.2.2.1, 17, ob) :: []) (fun v _ => v = (some (.int res))) := by
  delta L_law_b144 at hf
  refine Runs.iand d0_144 <| Runs.istore (P' := [vn, vn, vn, vr C.2.2.1, vn, vi i5, vi i6, vi (t0 &&& t1)]) d0_145 (by decide) rfl <| Runs.iload d0_147 rfl <| Runs.aloadN d0_149 rfl <| ?_
  refine bind_el hf fun r20 hg21 hf => ?_
  refine Runs.callV (N := B6) (W := 1) (as := []) (S' := [.int (t0 &&& t1)]) d0_150 w85 w86 w87 w88 cw6 ar6 rk0_6_1 (by decide) rfl rfl (X_pendingLength_pay hg21) <| ans1 <| ?_
  refine ite_el hf (fun hc22 hf => ?_) (fun hc22 hf => ?_)
  · refine Runs.ifN d0_153 (teq hc22).2 <| ?_
    exact Runs.iconst d0_156 ci_1 <| Runs.goto (pc' := 161) d0_157 (by decide) <| Runs.forget [false, false, false, true, false, true, true, false] rfl <| L_law_b161_p ob i5 i6 (t0 &&& t1) (1 : Int32) hf
  · refine Runs.ifY (pc' := 160) d0_153 (feq hc22).2 (by decide) <| ?_
    exact Runs.iconst d0_160 ci_0 <| Runs.forget [false, false, false, true, false, true, true, false] rfl <| L_law_b161_p ob i5 i6 (t0 &&& t1) (0 : Int32) hf
def L_law_b127 (NF : Nat) (ob : Rec) (i5 : Int32) (i6 : Int32) (t0 : Int32) (t1 : Int32) : Option (Int32) :=
  bind2 (X_commitClause NF ob) fun r16 q17 =>
  if r16 = (0 : Int32) then
    L_law_b144 NF q17 i5 i6 (t0 &&& t1) (1 : Int32)
  else
    L_law_b144 NF q17 i5 i6 (t0 &&& t1) (0 : Int32)
set_option maxRecDepth 65536 in
set_option maxHeartbeats 4000000 in
theorem L_law_b127_p {C : Ctx} {res : Int32} {NF : Nat} (ob : Rec) (i5 : Int32) (i6 : Int32) (t0 : Int32) (t1 : Int32) (hf : L_law_b127 NF ob i5 i6 t0 t1 = some res) : Runs C B0 18 318 127 [vn, vn, vn, vr C.2.2.1, vn, vi i5, vi i6, vn] [.int t1, .int t0] (C.2.2.1 + 1 + 17, (C.2.2.1, 17, ob) :: []) (fun v _ => v = (some (.int res))) := by
  delta L_law_b127 at hf
  refine Runs.iand d0_127 <| Runs.istore (P' := [vn, vn, vn, vr C.2.2.1, vn, vi i5, vi i6, vi (t0 &&& t1)]) d0_128 (by decide) rfl <| Runs.iload d0_130 rfl <| Runs.aloadN d0_132 rfl <| ?_
  refine bind2_el hf fun r16 q17 hg18 hf => ?_
  refine Runs.callV (N := B3) (W := 1) (as := []) (S' := [.int (t0 &&& t1)]) d0_133 w72 w73 w74 w75 cw3 ar3 rk0_3_1 (by decide) rfl rfl (X_commitClause_pay hg18) <| ans1 <| ?_
  refine ite_el hf (fun hc19 hf => ?_) (fun hc19 hf => ?_)
  · refine Runs.ifN d0_136 (teq hc19).2 <| ?_
    exact Runs.iconst d0_139 ci_1 <| Runs.goto (pc' := 144) d0_140 (by decide) <| Runs.forget [false, false, false, true, false, true, true, false] rfl <| L_law_b144_p q17 i5 i6 (t0 &&& t1) (1 : Int32) hf
  · refine Runs.ifY (pc' := 143) d0_136 (feq hc19).2 (by decide) <| ?_
    exact Runs.iconst d0_143 ci_0 <| Runs.forget [false, false, false, true, false, true, true, false] rfl <| L_law_b144_p q17 i5 i6 (t0 &&& t1) (0 : Int32) hf
def L_law_b119 (NF : Nat) (ob : Rec) (i5 : Int32) (i6 : Int32) (t0 : Int32) (t1 : Int32) (t2 : Int32) : Option (Int32) :=
  if t1 = t2 then
    L_law_b127 NF ob i5 i6 t0 (1 : Int32)
  else
    L_law_b127 NF ob i5 i6 t0 (0 : Int32)
set_option maxRecDepth 65536 in
set_option maxHeartbeats 4000000 in
theorem L_law_b119_p {C : Ctx} {res : Int32} {NF : Nat} (ob : Rec) (i5 : Int32) (i6 : Int32) (t0 : Int32) (t1 : Int32) (t2 : Int32) (hf : L_law_b119 NF ob i5 i6 t0 t1 t2 = some res) : Runs C B0 18 318 119 [vn, vn, vn, vr C.2.2.1, vn, vi i5, vi i6, vn] [.int t2, .int t1, .int t0] (C.2.2.1 + 1 + 17, (C.2.2.1, 17, ob) :: []) (fun v _ => v = (some (.int res))) := by
  delta L_law_b119 at hf
  refine ite_el hf (fun hc15 hf => ?_) (fun hc15 hf => ?_)
  · refine Runs.icN d0_119 (teq hc15).2 <| ?_
    exact Runs.iconst d0_122 ci_1 <| Runs.goto (pc' := 127) d0_123 (by decide) <| L_law_b127_p ob i5 i6 t0 (1 : Int32) hf
  · refine Runs.icY (pc' := 126) d0_119 (feq hc15).2 (by decide) <| ?_
    exact Runs.iconst d0_126 ci_0 <| L_law_b127_p ob i5 i6 t0 (0 : Int32) hf
def L_law_b90 (NF : Nat) (ob : Rec) (i2 : Int32) (i5 : Int32) (i6 : Int32) (t0 : Int32) : Option (Int32) :=
  bind2 (X_addLiteral ob i2 (1 : Int32)) fun r10 q11 =>
  if i6 = (0 : Int32) then
    L_law_b119 NF q11 i5 i6 t0 r10 (-1 : Int32)
  else
    if i5 = (0 : Int32) then
      L_law_b119 NF q11 i5 i6 t0 r10 (1 : Int32)
    else
      L_law_b119 NF q11 i5 i6 t0 r10 (2 : Int32)
set_option maxRecDepth 65536 in
set_option maxHeartbeats 4000000 in
theorem L_law_b90_p {C : Ctx} {res : Int32} {NF : Nat} (ob : Rec) (i2 : Int32) (i5 : Int32) (i6 : Int32) (t0 : Int32) (hf : L_law_b90 NF ob i2 i5 i6 t0 = some res) : Runs C B0 18 318 90 [vn, vn, vi i2, vr C.2.2.1, vn, vi i5, vi i6, vn] [.int t0] (C.2.2.1 + 1 + 17, (C.2.2.1, 17, ob) :: []) (fun v _ => v = (some (.int res))) := by
  delta L_law_b90 at hf
  refine Runs.istore (P' := [vn, vn, vi i2, vr C.2.2.1, vn, vi i5, vi i6, vi t0]) d0_90 (by decide) rfl <| Runs.iload d0_92 rfl <| Runs.aloadN d0_94 rfl <| Runs.iloadN d0_95 rfl <| Runs.iconst d0_96 ci_1 <| ?_
  refine bind2_el hf fun r10 q11 hg12 hf => ?_
  refine Runs.callV (N := B2) (W := 1) (as := [.int i2, .int (1 : Int32)]) (S' := [.int t0]) d0_97 w67 w68 w69 w70 cw2 ar2 rk0_2_1 (by decide) rfl rfl (X_addLiteral_pay hg12) <| ans1 <| Runs.iload d0_100 rfl <| ?_
  refine ite_el hf (fun hc13 hf => ?_) (fun hc13 hf => ?_)
  · refine Runs.ifY (pc' := 118) d0_102 (teq hc13).1 (by decide) <| ?_
    exact Runs.iconst d0_118 ci_m1 <| Runs.forget [false, false, false, true, false, true, true, false] rfl <| L_law_b119_p q11 i5 i6 t0 r10 (-1 : Int32) hf
  · refine Runs.ifN d0_102 (feq hc13).1 <| ?_
    refine Runs.iload d0_105 rfl <| ?_
    refine ite_el hf (fun hc14 hf => ?_) (fun hc14 hf => ?_)
    · refine Runs.ifY (pc' := 114) d0_107 (teq hc14).1 (by decide) <| ?_
      exact Runs.iconst d0_114 ci_1 <| Runs.goto (pc' := 119) d0_115 (by decide) <| Runs.forget [false, false, false, true, false, true, true, false] rfl <| L_law_b119_p q11 i5 i6 t0 r10 (1 : Int32) hf
    · refine Runs.ifN d0_107 (feq hc14).1 <| ?_
      exact Runs.iconst d0_110 ci_2 <| Runs.goto (pc' := 119) d0_111 (by decide) <| Runs.forget [false, false, false, true, false, true, true, false] rfl <| L_law_b119_p q11 i5 i6 t0 r10 (2 : Int32) hf
def L_law_b82 (NF : Nat) (ob : Rec) (i2 : Int32) (i5 : Int32) (i6 : Int32) (t0 : Int32) (t1 : Int32) : Option (Int32) :=
  if t0 = t1 then
    L_law_b90 NF ob i2 i5 i6 (1 : Int32)
  else
    L_law_b90 NF ob i2 i5 i6 (0 : Int32)
set_option maxRecDepth 65536 in
set_option maxHeartbeats 4000000 in
theorem L_law_b82_p {C : Ctx} {res : Int32} {NF : Nat} (ob : Rec) (i2 : Int32) (i5 : Int32) (i6 : Int32) (t0 : Int32) (t1 : Int32) (hf : L_law_b82 NF ob i2 i5 i6 t0 t1 = some res) : Runs C B0 18 318 82 [vn, vn, vi i2, vr C.2.2.1, vn, vi i5, vi i6, vn] [.int t1, .int t0] (C.2.2.1 + 1 + 17, (C.2.2.1, 17, ob) :: []) (fun v _ => v = (some (.int res))) := by
  delta L_law_b82 at hf
  refine ite_el hf (fun hc9 hf => ?_) (fun hc9 hf => ?_)
  · refine Runs.icN d0_82 (teq hc9).2 <| ?_
    exact Runs.iconst d0_85 ci_1 <| Runs.goto (pc' := 90) d0_86 (by decide) <| L_law_b90_p ob i2 i5 i6 (1 : Int32) hf
  · refine Runs.icY (pc' := 89) d0_82 (feq hc9).2 (by decide) <| ?_
    exact Runs.iconst d0_89 ci_0 <| L_law_b90_p ob i2 i5 i6 (0 : Int32) hf
def L_law_b64 (NF : Nat) (ob : Rec) (i1 : Int32) (i2 : Int32) (i5 : Int32) (t0 : Int32) : Option (Int32) :=
  bind2 (X_addLiteral ob i1 (0 : Int32)) fun r5 q6 =>
  if i5 = (0 : Int32) then
    L_law_b82 NF q6 i2 i5 t0 r5 (-1 : Int32)
  else
    L_law_b82 NF q6 i2 i5 t0 r5 (1 : Int32)
set_option maxRecDepth 65536 in
set_option maxHeartbeats 4000000 in
theorem L_law_b64_p {C : Ctx} {res : Int32} {NF : Nat} (ob : Rec) (i1 : Int32) (i2 : Int32) (i5 : Int32) (t0 : Int32) (hf : L_law_b64 NF ob i1 i2 i5 t0 = some res) : Runs C B0 18 318 64 [vn, vi i1, vi i2, vr C.2.2.1, vn, vi i5, vn, vn] [.int t0] (C.2.2.1 + 1 + 17, (C.2.2.1, 17, ob) :: []) (fun v _ => v = (some (.int res))) := by
  delta L_law_b64 at hf
  refine Runs.istore (P' := [vn, vi i1, vi i2, vr C.2.2.1, vn, vi i5, vi t0, vn]) d0_64 (by decide) rfl <| Runs.aloadN d0_66 rfl <| Runs.iloadN d0_67 rfl <| Runs.iconst d0_68 ci_0 <| ?_
  refine bind2_el hf fun r5 q6 hg7 hf => ?_
  refine Runs.callV (N := B2) (W := 0) (as := [.int i1, .int (0 : Int32)]) (S' := []) d0_69 w67 w68 w69 w70 cw2 ar2 rk0_2_0 (by decide) rfl rfl (X_addLiteral_pay hg7) <| ans1 <| Runs.iload d0_72 rfl <| ?_
  refine ite_el hf (fun hc8 hf => ?_) (fun hc8 hf => ?_)
  · refine Runs.ifY (pc' := 81) d0_74 (teq hc8).1 (by decide) <| ?_
    exact Runs.iconst d0_81 ci_m1 <| Runs.forget [false, false, true, true, false, true, true, false] rfl <| L_law_b82_p q6 i2 i5 t0 r5 (-1 : Int32) hf
  · refine Runs.ifN d0_74 (feq hc8).1 <| ?_
    exact Runs.iconst d0_77 ci_1 <| Runs.goto (pc' := 82) d0_78 (by decide) <| Runs.forget [false, false, true, true, false, true, true, false] rfl <| L_law_b82_p q6 i2 i5 t0 r5 (1 : Int32) hf
def L_law_b47 (NF : Nat) (ob : Rec) (i1 : Int32) (i2 : Int32) (i4 : Int32) (t0 : Int32) : Option (Int32) :=
  if i2 < (0 : Int32) then
    L_law_b64 NF ob i1 i2 t0 (0 : Int32)
  else
    if i2 < i4 then
      L_law_b64 NF ob i1 i2 t0 (1 : Int32)
    else
      L_law_b64 NF ob i1 i2 t0 (0 : Int32)
set_option maxRecDepth 65536 in
set_option maxHeartbeats 4000000 in
theorem L_law_b47_p {C : Ctx} {res : Int32} {NF : Nat} (ob : Rec) (i1 : Int32) (i2 : Int32) (i4 : Int32) (t0 : Int32) (hf : L_law_b47 NF ob i1 i2 i4 t0 = some res) : Runs C B0 18 318 47 [vn, vi i1, vi i2, vr C.2.2.1, vi i4, vn, vn, vn] [.int t0] (C.2.2.1 + 1 + 17, (C.2.2.1, 17, ob) :: []) (fun v _ => v = (some (.int res))) := by
  delta L_law_b47 at hf
  refine Runs.istore (P' := [vn, vi i1, vi i2, vr C.2.2.1, vi i4, vi t0, vn, vn]) d0_47 (by decide) rfl <| Runs.iloadN d0_49 rfl <| ?_
  refine ite_el hf (fun hc3 hf => ?_) (fun hc3 hf => ?_)
  · refine Runs.ifY (pc' := 63) d0_50 (tlt hc3).1 (by decide) <| ?_
    exact Runs.iconst d0_63 ci_0 <| Runs.forget [false, true, true, true, false, true, false, false] rfl <| L_law_b64_p ob i1 i2 t0 (0 : Int32) hf
  · refine Runs.ifN d0_50 (flt hc3).1 <| ?_
    refine Runs.iloadN d0_53 rfl <| Runs.iload d0_54 rfl <| ?_
    refine ite_el hf (fun hc4 hf => ?_) (fun hc4 hf => ?_)
    · refine Runs.icN d0_56 (tlt hc4).2.1 <| ?_
      exact Runs.iconst d0_59 ci_1 <| Runs.goto (pc' := 64) d0_60 (by decide) <| Runs.forget [false, true, true, true, false, true, false, false] rfl <| L_law_b64_p ob i1 i2 t0 (1 : Int32) hf
    · refine Runs.icY (pc' := 63) d0_56 (flt hc4).2.1 (by decide) <| ?_
      exact Runs.iconst d0_63 ci_0 <| Runs.forget [false, true, true, true, false, true, false, false] rfl <| L_law_b64_p ob i1 i2 t0 (0 : Int32) hf
def L_law_b30 (NF : Nat) (ob : Rec) (i1 : Int32) (i2 : Int32) (t0 : Int32) : Option (Int32) :=
  if i1 < (0 : Int32) then
    L_law_b47 NF ob i1 i2 t0 (0 : Int32)
  else
    if i1 < t0 then
      L_law_b47 NF ob i1 i2 t0 (1 : Int32)
    else
      L_law_b47 NF ob i1 i2 t0 (0 : Int32)
set_option maxRecDepth 65536 in
set_option maxHeartbeats 4000000 in
theorem L_law_b30_p {C : Ctx} {res : Int32} {NF : Nat} (ob : Rec) (i1 : Int32) (i2 : Int32) (t0 : Int32) (hf : L_law_b30 NF ob i1 i2 t0 = some res) : Runs C B0 18 318 30 [vn, vi i1, vi i2, vr C.2.2.1, vn, vn, vn, vn] [.int t0] (C.2.2.1 + 1 + 17, (C.2.2.1, 17, ob) :: []) (fun v _ => v = (some (.int res))) := by
  delta L_law_b30 at hf
  refine Runs.istore (P' := [vn, vi i1, vi i2, vr C.2.2.1, vi t0, vn, vn, vn]) d0_30 (by decide) rfl <| Runs.iloadN d0_32 rfl <| ?_
  refine ite_el hf (fun hc1 hf => ?_) (fun hc1 hf => ?_)
  · refine Runs.ifY (pc' := 46) d0_33 (tlt hc1).1 (by decide) <| ?_
    exact Runs.iconst d0_46 ci_0 <| L_law_b47_p ob i1 i2 t0 (0 : Int32) hf
  · refine Runs.ifN d0_33 (flt hc1).1 <| ?_
    refine Runs.iloadN d0_36 rfl <| Runs.iload d0_37 rfl <| ?_
    refine ite_el hf (fun hc2 hf => ?_) (fun hc2 hf => ?_)
    · refine Runs.icN d0_39 (tlt hc2).2.1 <| ?_
      exact Runs.iconst d0_42 ci_1 <| Runs.goto (pc' := 47) d0_43 (by decide) <| L_law_b47_p ob i1 i2 t0 (1 : Int32) hf
    · refine Runs.icY (pc' := 46) d0_39 (flt hc2).2.1 (by decide) <| ?_
      exact Runs.iconst d0_46 ci_0 <| L_law_b47_p ob i1 i2 t0 (0 : Int32) hf
def L_law (NF : Nat) (i0 : Int32) (i1 : Int32) (i2 : Int32) : Option (Int32) :=
  (X_init i0).bind fun q44 =>
  if i0 < (1 : Int32) then
    L_law_b30 NF q44 i1 i2 (1 : Int32)
  else
    if (12 : Int32) < i0 then
      L_law_b30 NF q44 i1 i2 (12 : Int32)
    else
      L_law_b30 NF q44 i1 i2 i0
set_option maxRecDepth 65536 in
set_option maxHeartbeats 4000000 in
theorem L_law_p {C : Ctx} {res : Int32} {NF : Nat} (i0 : Int32) (i1 : Int32) (i2 : Int32) (hf : L_law NF i0 i1 i2 = some res) : Runs C B0 0 0 0 [vi i0, vi i1, vi i2, vn, vn, vn, vn, vn] [] (C.2.2.1, []) (fun v _ => v = (some (.int res))) := by
  delta L_law at hf
  refine Runs.newK (k' := 1) (n' := 35) d0_0 w0 ⟨by decide, by decide⟩ rfl rfl (by intro x hx; cases hx) <| Runs.dup d0_3 rfl <| Runs.iloadN d0_4 rfl <| ?_
  refine bind_el hf fun q44 hg45 hf => ?_
  refine Runs.callI (N := B1) (k' := 18) (n' := 318) (W := 1) (as := [.int i0]) (S' := [.ref C.2.2.1]) d0_5 rfl rfl w3 w4 cw1 ar1 (by decide) rfl rfl rfl rfl (X_init_pay hg45) <| ans0 <| Runs.astoreN (P' := [vi i0, vi i1, vi i2, vr C.2.2.1, vn, vn, vn, vn]) d0_8 (by decide) rfl <| Runs.iloadN d0_9 rfl <| Runs.iconst d0_10 ci_1 <| ?_
  refine ite_el hf (fun hc46 hf => ?_) (fun hc46 hf => ?_)
  · refine Runs.icN d0_11 (tlt hc46).2.1 <| ?_
    exact Runs.iconst d0_14 ci_1 <| Runs.goto (pc' := 30) d0_15 (by decide) <| Runs.forget [false, true, true, true, false, false, false, false] rfl <| L_law_b30_p q44 i1 i2 (1 : Int32) hf
  · refine Runs.icY (pc' := 18) d0_11 (flt hc46).2.1 (by decide) <| ?_
    refine Runs.iloadN d0_18 rfl <| Runs.bipush d0_19 cb_12 <| ?_
    refine ite_el hf (fun hc47 hf => ?_) (fun hc47 hf => ?_)
    · refine Runs.icN d0_21 (tlt hc47).2.2.2 <| ?_
      exact Runs.bipush d0_24 cb_12 <| Runs.goto (pc' := 30) d0_26 (by decide) <| Runs.forget [false, true, true, true, false, false, false, false] rfl <| L_law_b30_p q44 i1 i2 (12 : Int32) hf
    · refine Runs.icY (pc' := 29) d0_21 (flt hc47).2.2.2 (by decide) <| ?_
      exact Runs.iloadN d0_29 rfl <| Runs.forget [false, true, true, true, false, false, false, false] rfl <| L_law_b30_p q44 i1 i2 i0 hf
theorem L_law_pay {C : Ctx} {res : Int32} {NF : Nat} {i0 : Int32} {i1 : Int32} {i2 : Int32} (hf : L_law NF i0 i1 i2 = some res) : Pays C B0 [.int i0, .int i1, .int i2] (C.2.2.1, []) (fun v _ => v = (some (.int res))) :=
  Pays.of pnL (Nat.le_of_ble_eq_true rfl) (P := [vi i0, vi i1, vi i2, vn, vn, vn, vn, vn]) 5 rfl (L_law_p i0 i1 i2 hf)
-- no word: X_violations at 70: method #122
--OWED--
theorem gI_sI (ob : Rec) (k j : Nat) (v : Int32) : gI (sI ob k v) j = if j = k then v else gI ob j := rfl
theorem gI_sA (ob : Rec) (k j : Nat) (i v : Int32) : gI (sA ob k i v) j = gI ob j := rfl
theorem gI_sJ (ob : Rec) (k j : Nat) (i : Int32) (v : Int64) : gI (sJ ob k i v) j = gI ob j := rfl
theorem gA_sI (ob : Rec) (k j : Nat) (v x : Int32) : gA (sI ob k v) j x = gA ob j x := rfl
theorem gA_sA (ob : Rec) (k j : Nat) (i v x : Int32) : gA (sA ob k i v) j x = if j = k ∧ x = i then v else gA ob j x := rfl
theorem gA_sJ (ob : Rec) (k j : Nat) (i x : Int32) (v : Int64) : gA (sJ ob k i v) j x = gA ob j x := rfl
theorem gJ_sI (ob : Rec) (k j : Nat) (v x : Int32) : gJ (sI ob k v) j x = gJ ob j x := rfl
theorem gJ_sA (ob : Rec) (k j : Nat) (i v x : Int32) : gJ (sA ob k i v) j x = gJ ob j x := rfl
theorem gJ_sJ (ob : Rec) (k j : Nat) (i x : Int32) (v : Int64) : gJ (sJ ob k i v) j x = if j = k ∧ x = i then v else gJ ob j x := rfl
theorem gI_z (k : Nat) : gI zrec k = 0 := rfl
theorem gA_z (k : Nat) (i : Int32) : gA zrec k i = 0 := rfl
theorem gJ_z (k : Nat) (i : Int32) : gJ zrec k i = 0 := rfl
theorem chk_ok {γ : Type} {n i : Int32} {A : Option γ} (h : 0 ≤ i.toInt ∧ i.toInt < n.toInt) : chk n i A = A := by
  have h0 : ¬ i < 0 := by rw [Int32.lt_iff_toInt_lt]; show ¬ i.toInt < 0; omega
  have h1 : i < n := by rw [Int32.lt_iff_toInt_lt]; exact h.2
  unfold chk; rw [if_neg h0, if_pos h1]
theorem lt_i {x y : Int32} : x < y ↔ x.toInt < y.toInt := Int32.lt_iff_toInt_lt
theorem le_i {x y : Int32} : x ≤ y ↔ x.toInt ≤ y.toInt := Int32.le_iff_toInt_le
theorem eq_i32 {x y : Int32} : x = y ↔ x.toInt = y.toInt := Int32.toInt_inj.symm
theorem bm_id {n : Int} (h : -2147483648 ≤ n ∧ n < 2147483648) : n.bmod (2 ^ 32) = n := Int.bmod_eq_of_le (by omega) (by omega)
theorem ad {x y : Int32} (h : -2147483648 ≤ x.toInt + y.toInt ∧ x.toInt + y.toInt < 2147483648) : (x + y).toInt = x.toInt + y.toInt := by rw [Int32.toInt_add, bm_id h]
theorem sb {x y : Int32} (h : -2147483648 ≤ x.toInt - y.toInt ∧ x.toInt - y.toInt < 2147483648) : (x - y).toInt = x.toInt - y.toInt := by rw [Int32.toInt_sub, bm_id h]
theorem ml {x y : Int32} (h : -2147483648 ≤ x.toInt * y.toInt ∧ x.toInt * y.toInt < 2147483648) : (x * y).toInt = x.toInt * y.toInt := by rw [Int32.toInt_mul, bm_id h]
theorem fin12 {n : Int32} (h : 0 ≤ n.toInt ∧ n.toInt ≤ 12) : n ∈ ([0, 1, 2, 3, 4, 5, 6, 7, 8, 9, 10, 11, 12] : List Int32) := by
  simp only [List.mem_cons, eq_i32, Int32.reduceToInt, List.not_mem_nil, or_false]
  omega
def MM (n : Int32) : Int32 := ((1 : Int32) <<< (n &&& 31)) - 1
def PB (n i : Int32) : Int32 := ((0 : Int32) ||| ((1 : Int32) <<< (i &&& 31))) &&& MM n
theorem bits : ∀ n ∈ ([0, 1, 2, 3, 4, 5, 6, 7, 8, 9, 10, 11, 12] : List Int32), ∀ i ∈ ([0, 1, 2, 3, 4, 5, 6, 7, 8, 9, 10, 11, 12] : List Int32), i < n → ¬ PB n i = 0 ∧ MM n &&& PB n i = PB n i ∧ (MM n ^^^ -1) &&& PB n i = 0 := by decide +kernel
/-- the pending mask, for none, one, two literals -/
theorem pm0 (NF n : Nat) (ob : Rec) (v : Int32) (h : gI ob 4 = 0) : X_pendingMask_l4 NF ob (n + 1) v 0 0 = some (0 &&& gI ob 1) := by
  show X_pendingMask_w4 NF ob _ v 0 0 = _
  unfold X_pendingMask_w4; rw [h, if_neg (by decide)]
def pmt (ob : Rec) (v k a : Int32) : Int32 := if gA ob 1 k = v then a ||| (1 <<< (gA ob 0 k &&& 31)) else a
theorem pmS (NF n : Nat) (ob : Rec) (v a k : Int32) (h : k < gI ob 4) (h8 : k < 8) (h0 : 0 ≤ k.toInt) : X_pendingMask_l4 NF ob (n + 1) v a k = X_pendingMask_l4 NF ob n v (pmt ob v k a) (k + 1) := by
  show X_pendingMask_w4 NF ob _ v a k = _
  unfold X_pendingMask_w4 pmt
  have q : ∀ A : Option Int32, chk 8 k A = A := fun A => chk_ok ⟨h0, lt_i.mp h8⟩
  rw [if_pos h, if_pos h8, q, q]
  split <;> rfl
theorem pmE (NF n : Nat) (ob : Rec) (v a k : Int32) (h : ¬ k < gI ob 4) : X_pendingMask_l4 NF ob (n + 1) v a k = some (a &&& gI ob 1) := by
  show X_pendingMask_w4 NF ob _ v a k = _
  unfold X_pendingMask_w4; rw [if_neg h]
theorem pm1 (NF n : Nat) (ob : Rec) (v : Int32) (h : gI ob 4 = 1) : X_pendingMask_l4 NF ob (n + 2) v 0 0 = some (pmt ob v 0 0 &&& gI ob 1) := by
  rw [pmS NF (n + 1) ob v 0 0 (by rw [h]; decide) (by decide) (by decide), pmE NF n ob v _ _ (by rw [h]; decide)]
theorem pm2 (NF n : Nat) (ob : Rec) (v : Int32) (h : gI ob 4 = 2) : X_pendingMask_l4 NF ob (n + 3) v 0 0 = some (pmt ob v 1 (pmt ob v 0 0) &&& gI ob 1) := by
  rw [pmS NF (n + 2) ob v 0 0 (by rw [h]; decide) (by decide) (by decide), pmS NF (n + 1) ob v _ _ (by rw [h]; decide) (by decide) (by decide), pmE NF n ob v _ _ (by rw [h]; decide)]; rfl
theorem com_ok (ob : Rec) (p q : Int32) (hp : X_pendingMask 20 ob 0 = some p) (hq : ∀ i, X_pendingMask 20 (sA ob 2 i p) 1 = some q) (e5 : gI ob 5 = 0) (e6 : gI ob 6 = 0) (e7 : gI ob 7 = 0) : ∃ ob', X_commitClause 20 ob = some (0, ob') ∧ gI ob' 1 = gI ob 1 ∧ gI ob' 4 = 0 ∧ gI ob' 5 = 1 ∧ gI ob' 6 = 0 ∧ gI ob' 7 = 1 ∧ gA ob' 2 0 = p ∧ gA ob' 3 0 = q ∧ gA ob' 6 0 = 1 := by
  unfold X_commitClause X_pushOrder
  simp only [e5, e7, hp, hq, Option.bind_some, gI_sI, gI_sA]
  exact ⟨_, rfl, rfl, rfl, rfl, e6, rfl, rfl, rfl, rfl⟩
theorem vio_ok (ob : Rec) (w M p q : Int32) (e1 : gI ob 1 = M) (e5 : gI ob 5 = 1) (e6 : gI ob 6 = 0) (ep : gA ob 2 0 = p) (eq : gA ob 3 0 = q) : X_violations 20 ob w = some (if (((w &&& M) &&& p) ||| (((w &&& M) ^^^ -1) &&& q)) = 0 then 1 else 0) := by
  unfold X_violations
  show X_violations_w12 20 ob (X_violations_l12 20 ob 19) _ 0 0 = _
  unfold X_violations_w12 X_clauseHolds
  have q24 : ∀ A : Option Int32, chk 24 0 A = A := fun A => chk_ok (by decide)
  rw [e1, e5, if_pos (by decide), if_pos (by decide), if_neg (by decide), if_pos (by decide), q24, q24, ep, eq]
  have z : ∀ x : Int32, X_violations_l12 20 ob 19 (w &&& M) x (0 + 1) = some x := by
    intro x
    show X_violations_w12 20 ob (X_violations_l12 20 ob 18) _ x (0 + 1) = _
    unfold X_violations_w12 X_violations_b47
    rw [e5, e6, if_neg (by decide), if_neg (by decide)]
  by_cases c : (((w &&& M) &&& p) ||| (((w &&& M) ^^^ -1) &&& q)) = 0
  · rw [if_pos c, if_pos c, Option.bind_some, if_pos rfl, z]; rfl
  · rw [if_neg c, if_neg c, Option.bind_some, if_neg (by decide), z]
theorem fin_ok (ob : Rec) (i5 i6 M p q : Int32) (hp : X_pendingMask 20 ob 0 = some p) (hq : ∀ i, X_pendingMask 20 (sA ob 2 i p) 1 = some q) (e1 : gI ob 1 = M) (e5 : gI ob 5 = 0) (e6 : gI ob 6 = 0) (e7 : gI ob 7 = 0)
    (h0 : (if (((0 &&& M) &&& p) ||| (((0 &&& M) ^^^ -1) &&& q)) = 0 then (1 : Int32) else 0) = if i6 = 0 then 1 else 0) (h1 : (if (((-1 &&& M) &&& p) ||| (((-1 &&& M) ^^^ -1) &&& q)) = 0 then (1 : Int32) else 0) = if i5 = 0 then 1 else 0) : L_law_b127 20 ob i5 i6 1 1 = some 1 := by
  obtain ⟨ob', e, f1, f4, f5, f6, f7, f2, f3, f8⟩ := com_ok ob p q hp hq e5 e6 e7
  unfold L_law_b127 L_law_b144 L_law_b161 L_law_b179 L_law_b199 L_law_b207 L_law_b227 L_law_b235 L_law_b253 L_law_b270 X_popConstraint X_clauseCount X_pendingLength X_status
  rw [e]
  have v0 := vio_ok ob' 0 M p q (f1.trans e1) f5 f6 f2 f3
  have v1 := vio_ok ob' (-1) M p q (f1.trans e1) f5 f6 f2 f3
  rw [h0] at v0
  rw [h1] at v1
  have g : gA ob' 6 (1 - 1) = 1 := f8
  by_cases c5 : i5 = 0 <;> by_cases c6 : i6 = 0 <;> simp [bind2, c5, c6, v0, v1, f4, f5, f6, f7, f8, g, chk, gI_sI]
theorem own_mid (n b c : Int32) (hn : 1 ≤ n.toInt ∧ n.toInt ≤ 12) (r : Rec) (e0 : gI r 0 = n) (e1 : gI r 1 = MM n) (e4 : gI r 4 = 0) (e5 : gI r 5 = 0) (e6 : gI r 6 = 0) (e7 : gI r 7 = 0) : L_law_b30 20 r b c n = some 1 := by
  have t0 : (0 : Int32).toInt = 0 := rfl
  have vb : (¬ b < 0 ∧ b < n) ∨ (b < 0 ∨ ¬ b < n) := by simp only [lt_i]; omega
  have vc : (¬ c < 0 ∧ c < n) ∨ (c < 0 ∨ ¬ c < n) := by simp only [lt_i]; omega
  have hb : ∀ i : Int32, ¬ i < 0 → i < n → _ := fun i h h' => bits n (fin12 (by omega)) i (fin12 (by rw [lt_i] at h h'; omega)) h'
  have A1 : ∀ (ob : Rec) (i v : Int32), gI ob 0 = n → gI ob 4 = 0 → ¬ i < 0 → i < n → X_addLiteral ob i v = some (1, sI (sA (sA ob 0 0 i) 1 0 (v &&& 1)) 4 1) := by
    intro ob i v h0 h4 hi hi'
    unfold X_addLiteral; simp only [h0, h4, if_neg hi, if_pos hi']; rfl
  have A2 : ∀ (ob : Rec) (i v : Int32), gI ob 0 = n → gI ob 4 = 1 → ¬ i < 0 → i < n → X_addLiteral ob i v = some (2, sI (sA (sA ob 0 1 i) 1 1 (v &&& 1)) 4 2) := by
    intro ob i v h0 h4 hi hi'
    unfold X_addLiteral; simp only [h0, h4, if_neg hi, if_pos hi']; rfl
  have A0 : ∀ (ob : Rec) (i v : Int32), gI ob 0 = n → (i < 0 ∨ ¬ i < n) → X_addLiteral ob i v = some (-1, ob) := by
    intro ob i v h0 h
    unfold X_addLiteral
    by_cases c : i < 0
    · rw [if_pos c]
    · rw [if_neg c, h0, if_neg (h.resolve_left c)]
  have B : ∀ (i : Int32) (k : Int32 → Option Int32), (if i < 0 then k 0 else if i < n then k 1 else k 0) = if ¬ i < 0 ∧ i < n then k 1 else k 0 := by
    intro i k
    by_cases c : i < 0
    · rw [if_pos c, if_neg (fun h => h.1 c)]
    · by_cases c' : i < n
      · rw [if_neg c, if_pos c', if_pos ⟨c, c'⟩]
      · rw [if_neg c, if_neg c', if_neg (fun h => c' h.2)]
  have nv : ∀ i : Int32, (i < 0 ∨ ¬ i < n) → ¬ (¬ i < 0 ∧ i < n) := fun i h h' => h.elim h'.1 (fun g => g h'.2)
  unfold L_law_b30
  rw [B b (fun t => L_law_b47 20 r b c n t)]
  rcases vb with vb | vb <;> rcases vc with vc | vc
  · rw [if_pos vb]; unfold L_law_b47; rw [B c (fun t => L_law_b64 20 r b c 1 t), if_pos vc]
    unfold L_law_b64
    rw [A1 r b 0 e0 e4 vb.1 vb.2]
    show L_law_b82 20 (sI (sA (sA r 0 0 b) 1 0 (0 &&& 1)) 4 1) c 1 1 1 1 = _
    unfold L_law_b82; rw [if_pos rfl]
    unfold L_law_b90
    rw [A2 (sI (sA (sA r 0 0 b) 1 0 (0 &&& 1)) 4 1) c 1 e0 rfl vc.1 vc.2]
    show L_law_b119 20 _ 1 1 1 2 2 = _
    unfold L_law_b119; rw [if_pos rfl]
    obtain ⟨x1, x2, x3⟩ := hb b vb.1 vb.2
    obtain ⟨y1, y2, y3⟩ := hb c vc.1 vc.2
    refine fin_ok _ 1 1 (MM n) (PB n b) (PB n c) ?_ ?_ e1 e5 e6 e7 ?_ ?_
    · unfold X_pendingMask; rw [pm2 20 17 _ _ rfl]; simp [pmt, PB, gA_sI, gA_sA, gI_sI, gI_sA, e1]
    · intro i; unfold X_pendingMask; rw [pm2 20 17 _ _ rfl]; simp [pmt, PB, gA_sI, gA_sA, gI_sI, gI_sA, e1]
    · simp only [Int32.zero_and, Int32.zero_xor, Int32.neg_one_and, Int32.zero_or]; simpa using y1
    · simp only [Int32.neg_one_and, x2, y3]; simpa using x1
  · rw [if_pos vb]; unfold L_law_b47; rw [B c (fun t => L_law_b64 20 r b c 1 t), if_neg (nv c vc)]
    unfold L_law_b64
    rw [A1 r b 0 e0 e4 vb.1 vb.2]
    show L_law_b82 20 (sI (sA (sA r 0 0 b) 1 0 (0 &&& 1)) 4 1) c 1 0 1 1 = _
    unfold L_law_b82; rw [if_pos rfl]
    unfold L_law_b90
    rw [A0 (sI (sA (sA r 0 0 b) 1 0 (0 &&& 1)) 4 1) c 1 e0 vc]
    show L_law_b119 20 _ 1 0 1 (-1) (-1) = _
    unfold L_law_b119; rw [if_pos rfl]
    obtain ⟨x1, x2, x3⟩ := hb b vb.1 vb.2
    refine fin_ok _ 1 0 (MM n) (PB n b) (0 &&& MM n) ?_ ?_ e1 e5 e6 e7 ?_ ?_
    · unfold X_pendingMask; rw [pm1 20 18 _ _ rfl]; simp [pmt, PB, gA_sI, gA_sA, gI_sI, gI_sA, e1]
    · intro i; unfold X_pendingMask; rw [pm1 20 18 _ _ rfl]; simp [pmt, PB, gA_sI, gA_sA, gI_sI, gI_sA, e1]
    · simp
    · simp only [Int32.neg_one_and, x2]; simpa using x1
  · rw [if_neg (nv b vb)]; unfold L_law_b47; rw [B c (fun t => L_law_b64 20 r b c 0 t), if_pos vc]
    unfold L_law_b64
    rw [A0 r b 0 e0 vb]
    show L_law_b82 20 r c 0 1 (-1) (-1) = _
    unfold L_law_b82; rw [if_pos rfl]
    unfold L_law_b90
    rw [A1 r c 1 e0 e4 vc.1 vc.2]
    show L_law_b119 20 _ 0 1 1 1 1 = _
    unfold L_law_b119; rw [if_pos rfl]
    obtain ⟨y1, y2, y3⟩ := hb c vc.1 vc.2
    refine fin_ok _ 0 1 (MM n) (0 &&& MM n) (PB n c) ?_ ?_ e1 e5 e6 e7 ?_ ?_
    · unfold X_pendingMask; rw [pm1 20 18 _ _ rfl]; simp [pmt, PB, gA_sI, gA_sA, gI_sI, gI_sA, e1]
    · intro i; unfold X_pendingMask; rw [pm1 20 18 _ _ rfl]; simp [pmt, PB, gA_sI, gA_sA, gI_sI, gI_sA, e1]
    · simp only [Int32.zero_and, Int32.zero_xor, Int32.neg_one_and, Int32.zero_or]; simpa using y1
    · simp only [Int32.neg_one_and, y3, Int32.zero_and, Int32.and_zero]; rfl
  · rw [if_neg (nv b vb)]; unfold L_law_b47; rw [B c (fun t => L_law_b64 20 r b c 0 t), if_neg (nv c vc)]
    unfold L_law_b64
    rw [A0 r b 0 e0 vb]
    show L_law_b82 20 r c 0 0 (-1) (-1) = _
    unfold L_law_b82; rw [if_pos rfl]
    unfold L_law_b90
    rw [A0 r c 1 e0 vc]
    show L_law_b119 20 _ 0 0 1 (-1) (-1) = _
    unfold L_law_b119; rw [if_pos rfl]
    refine fin_ok _ 0 0 (MM n) (0 &&& MM n) (0 &&& MM n) ?_ ?_ e1 e5 e6 e7 ?_ ?_
    · unfold X_pendingMask; rw [pm0 20 19 _ _ e4, e1]
    · intro i; unfold X_pendingMask; exact (pm0 20 19 (sA r 2 i (0 &&& MM n)) 1 e4).trans (congrArg (fun x => some (0 &&& x)) e1)
    · simp
    · simp
theorem owed : ∀ i0 i1 i2 : Int32, ∃ NF : Nat, L_law NF i0 i1 i2 = some 1 := by
  intro i0 i1 i2
  refine ⟨20, ?_⟩
  unfold L_law X_init X_init_b149 X_init_b158
  by_cases h1 : i0 < 1
  · simp only [h1, if_true]
    exact own_mid _ _ _ (by decide) _ rfl rfl rfl rfl rfl rfl
  · by_cases h2 : 12 < i0
    · simp only [h1, h2, if_true, if_false]
      exact own_mid _ _ _ (by decide) _ rfl rfl rfl rfl rfl rfl
    · simp only [h1, h2, if_false]
      refine own_mid _ _ _ ?_ _ rfl rfl rfl rfl rfl rfl
      simp only [lt_i, Int32.reduceToInt] at h1 h2; omega
-- owed : ∀ i0 i1 i2 : Int32, ∃ NF : Nat, L_law NF i0 i1 i2 = some 1
--COMES--
set_option maxRecDepth 65536 in
set_option maxHeartbeats 4000000 in
theorem comes_1 {Post : Tables → Env → Array Value → State → Outcome → State → Prop} (hpost : ∀ tb e args s v u, (limb_1_1.after args s (.returned v) u = true ∧ limb_1_2.after args s (.returned v) u = true ∧ True) → FrameEnd s (.returned v) u (Jvm.fieldLocs frame_1_writes args s ++ Jvm.arrayLocs frame_1_arrays args s ++ Jvm.staticLocs frame_1_statics s) 48 704 → Post tb e args s (.returned v) u) :
    ArmFor flags0 classFile x code maxLocals ret World_1 tables_1 room_1 Calls_1 rest_1 Pre_1 Post := by
  intro l hfl _ _ p e ha hc hk s m args below hf hA hF happ hP
  obtain ⟨hcalls, hrest, hpre⟩ := hP
  obtain ⟨-, -, -, hnamed, -, -, -, hat⟩ := (Spec.applies_iff hf).mp happ
  obtain ⟨hg, hn⟩ := and_e (Cond.before_iff.mp (show (Jvm.Cond.and given_1 narrow_1).before args s = true from hpre))
  obtain ⟨hcnt, hg⟩ := and_e hg
  obtain ⟨w0, w1, w2, rfl⟩ : ∃ w0 w1 w2 : Value, args = #[w0, w1, w2] := by
    have hs : args.size = 3 := by simpa [Cond.value, given_1] using hcnt
    obtain ⟨L⟩ := args
    match L, hs with
    | [w0, w1, w2], _ => exact ⟨w0, w1, w2, rfl⟩
  have hw := fun d (hd : d ∈ tables_1) => atoms_spec (ws := Jvm.Cond.code x code maxLocals ret :: tables_1) hat d (List.mem_cons_of_mem _ hd)
  have hfit : Fit s := fun {y c} hc i hi => by
    obtain ⟨ha, rfl⟩ := Array.getElem?_eq_some_iff.mp hc
    have q := List.all_eq_true.mp ((Array.all_eq_true_iff_forall_mem.mp hF) _ (Array.getElem_mem ha)) i (List.mem_range.mpr hi)
    simpa [Array.getElem?_eq_getElem hi] using q
  obtain ⟨h0, hg⟩ := and_e hg
  obtain ⟨i0, e0⟩ := is_v h0
  obtain rfl : w0 = (.int i0) := Option.some.inj e0
  obtain ⟨h1, hg⟩ := and_e hg
  obtain ⟨i1, e1⟩ := is_v h1
  obtain rfl : w1 = (.int i1) := Option.some.inj e1
  have h2 := hg
  obtain ⟨i2, e2⟩ := is_v h2
  obtain rfl : w2 = (.int i2) := Option.some.inj e2
  obtain ⟨NF, hlaw⟩ := owed i0 i1 i2
  have hp := L_law_pay (C := (l, s, s.heap.size, #[.int i0, .int i1, .int i2])) hlaw hw s.heap (Rep.start s) tables_1
  obtain ⟨n, o, h1, h2, h3, v, L, rfl, ⟨N, G', -, rfl⟩, hq⟩ := hp p e ha hc hk s m _ below hf ((Spec.applies_iff_loose hf).mp happ).1 ⟨rfl, State.Warmed39.refl s, rfl⟩ trivial
  refine ⟨n, _, h1, h2, h3, hpost _ _ _ _ _ _ ⟨Cond.after_iff.mpr rfl, Cond.after_iff.mpr (eq_i res_at (Term.int_eval (1)) rfl), trivial⟩ ⟨hq.1, hq.2.1, (hq.2.2.sift fun y hy => Or.inr (N y hy)).mono (by decide) (by decide)⟩⟩
theorem main_1_1 : Claimed_1_1 := comes_1 fun _ _ _ _ _ _ h hF => ⟨h.1, hF⟩
theorem main_1_2 : Claimed_1_2 := comes_1 fun _ _ _ _ _ _ h hF => ⟨h.2.1, hF⟩
end Jvm.Pilot.@@N@@
namespace Jvm.Pilot.@@N@@
open Jvm Jvm.ClassFile Sem Op Lib Jvm.Free Jvm.Stand Jvm.Pilot.@@N@@.Jvm.D
/-! MADE BY PROGRAM (witnessworld.py) out of the Statement's table words and the real class files: 11 classes; the members and pool entries that the words name. The judged class is class 1, her method 1. -/
namespace start1
open Jvm.ClassFile
def u (s : String) : CpInfo := .utf8 (stringToUtf16 s)
/-- a pool by its gaps: so many unusable entries, then the entry; so many at the end -/
def gap : Nat → List CpInfo → List CpInfo
  | 0, r => r
  | n + 1, r => .unusable :: gap n r
def poolList (es : List (Nat × CpInfo)) (last : Nat) : List CpInfo := es.foldr (fun e r => gap e.1 (e.2 :: r)) (gap last [])
def pool (es : List (Nat × CpInfo)) (last : Nat) : Array CpInfo := ⟨poolList es last⟩
def fileOf (pool : Array CpInfo) (this : Nat) (attrs : Array Attribute := #[]) (ms : Array MethodInfo := #[]) (fl : Nat := 33) (sup : Nat := 0) (ifs : Array Nat := #[]) (fds : Array FieldInfo := #[]) : ClassFile where
  minorVersion := 0
  majorVersion := 65
  constantPool := pool
  accessFlags := fl
  thisClass := this
  superClass := sup
  interfaces := ifs
  fields := fds
  methods := ms
  attributes := attrs
def plain (name : String) (sup : Option ClassId) : Class where
  name := name
  kind := .ordinary
  loader := none
  accessFlags := 33
  super := sup
  interfaces := #[]
  cf := none
  fields := #[]
  methods := #[]
  instanceTypes := #[]
  staticTypes := #[]
  resolved := #[]
  callSites := []
  init := .initialized
  statics := none
  mirror := none

def pool0 : Array CpInfo := pool [(5, u "<init>"), (0, u "()V"), (1, .class_ 10), (1, u "java/lang/Object")] 113

def k0c0 : Code := { maxStack := 0, maxLocals := 1, code := object_method_1_code, exceptionTable := #[], attributes := #[] }
def k0m0 : Method := { name := "<init>", desc := "()V", sig := { parameters := [], returnType := none }, accessFlags := 1, code := some k0c0 }
/-- java/lang/Object -/
def k0 : Class := { plain "java/lang/Object" none with
  accessFlags := 33
  interfaces := #[]
  cf := some (fileOf pool0 8 #[] #[{ accessFlags := 1, nameIndex := 5, descriptorIndex := 6, attributes := #[] }] 33 0 #[] #[])
  fields := #[]
  methods := #[k0m0]
  instanceTypes := #[]
  staticTypes := #[]
  resolved := Array.replicate 124 none
  statics := none }

def pool1 : Array CpInfo := pool [(2, .class_ 4), (1, u "java/lang/Object"), (0, u "<init>"), (0, u "()V"), (0, .class_ 8), (0, u "XorGaussSat"), (0, .methodref 7 10), (0, .nameAndType 5 11), (0, u "(I)V"), (0, .methodref 7 13), (0, .nameAndType 14 15), (0, u "addLiteral"), (0, u "(IZ)I"), (0, .methodref 7 17), (0, .nameAndType 18 19), (0, u "commitClause"), (0, u "()I"), (0, .methodref 7 21), (0, .nameAndType 22 19), (0, u "pendingLength"), (0, .methodref 7 24), (0, .nameAndType 25 19), (0, u "clauseCount"), (0, .methodref 7 27), (0, .nameAndType 28 29), (0, u "violations"), (0, u "(I)I"), (0, .methodref 7 31), (0, .nameAndType 32 19), (0, u "popConstraint"), (0, .methodref 7 34), (0, .nameAndType 35 19), (0, u "status"), (0, .class_ 37), (0, u "XorGaussSatL2"), (2, u "law"), (0, u "(III)Z")] 3

def k1m0 : Method := { name := "<init>", desc := "()V", sig := { parameters := [], returnType := none }, accessFlags := 1, code := none }
def k1c1 : Code := { maxStack := 4, maxLocals := 8, code := code, exceptionTable := #[], attributes := #[] }
def k1m1 : Method := { name := "law", desc := "(III)Z", sig := { parameters := [.int, .int, .int], returnType := some .boolean }, accessFlags := 9, code := some k1c1 }
/-- XorGaussSatL2 -/
def k1 : Class := { plain "XorGaussSatL2" (some 0) with
  accessFlags := 49
  interfaces := #[]
  cf := some (fileOf pool1 36 #[] #[{ accessFlags := 1, nameIndex := 5, descriptorIndex := 6, attributes := #[] }, { accessFlags := 9, nameIndex := 40, descriptorIndex := 41, attributes := #[] }] 49 2 #[] #[])
  fields := #[]
  methods := #[k1m0, k1m1]
  instanceTypes := #[]
  staticTypes := #[]
  resolved := Array.replicate 45 none
  statics := none }

def pool2 : Array CpInfo := pool [(1, .methodref 2 3), (0, .class_ 4), (0, .nameAndType 5 6), (0, u "java/lang/Object"), (0, u "<init>"), (0, u "()V"), (0, .fieldref 8 9), (0, .class_ 10), (0, .nameAndType 11 12), (0, u "XorGaussSat"), (0, u "pendVar"), (0, u "[I"), (0, .fieldref 8 14), (0, .nameAndType 15 16), (0, u "pendNeg"), (0, u "[Z"), (0, .fieldref 8 18), (0, .nameAndType 19 12), (0, u "clausePos"), (0, .fieldref 8 21), (0, .nameAndType 22 12), (0, u "clauseNeg"), (0, .fieldref 8 24), (0, .nameAndType 25 12), (0, u "xorMask"), (0, .fieldref 8 27), (0, .nameAndType 28 12), (0, u "xorRhs"), (0, .fieldref 8 30), (0, .nameAndType 31 12), (0, u "order"), (0, .fieldref 8 33), (0, .nameAndType 34 12), (0, u "echMask"), (0, .fieldref 8 36), (0, .nameAndType 37 12), (0, u "echRhs"), (0, .fieldref 8 39), (0, .nameAndType 40 12), (0, u "echPivot"), (0, .fieldref 8 42), (0, .nameAndType 43 12), (0, u "gMask"), (0, .fieldref 8 45), (0, .nameAndType 46 12), (0, u "gRhs"), (0, .fieldref 8 48), (0, .nameAndType 49 12), (0, u "gPivot"), (0, .fieldref 8 51), (0, .nameAndType 52 12), (0, u "trail"), (0, .fieldref 8 54), (0, .nameAndType 55 12), (0, u "lvlVar"), (0, .fieldref 8 57), (0, .nameAndType 58 12), (0, u "lvlStart"), (0, .fieldref 8 60), (0, .nameAndType 61 16), (0, u "lvlFlipped"), (0, .fieldref 8 63), (0, .nameAndType 64 65), (0, u "n"), (0, u "I"), (0, .fieldref 8 67), (0, .nameAndType 68 65), (0, u "fullMask"), (0, .fieldref 8 70), (0, .nameAndType 71 65), (0, u "status"), (0, .fieldref 8 73), (0, .nameAndType 74 65), (0, u "model"), (0, .fieldref 8 76), (0, .nameAndType 77 65), (0, u "pendLen"), (0, .fieldref 8 79), (0, .nameAndType 80 65), (0, u "clauseCnt"), (0, .fieldref 8 82), (0, .nameAndType 83 65), (0, u "xorCnt"), (0, .fieldref 8 85), (0, .nameAndType 86 65), (0, u "orderLen"), (0, .fieldref 8 88), (0, .nameAndType 89 90), (0, u "echValid"), (0, u "Z"), (0, .fieldref 8 92), (0, .nameAndType 93 90), (0, u "echConsistent"), (0, .fieldref 8 95), (0, .nameAndType 96 65), (0, u "echRank"), (0, .methodref 8 98), (0, .nameAndType 99 100), (0, u "pendingMask"), (0, u "(Z)I"), (0, .methodref 8 102), (0, .nameAndType 103 104), (0, u "pushOrder"), (0, u "(I)V"), (3, u "()I"), (6, u "(II)Z"), (2, u "found"), (0, .methodref 8 120), (0, .nameAndType 121 115), (0, u "clauseHolds"), (12, u "(I)I"), (8, u "gRank"), (12, u "gRows"), (28, u "asgMask"), (2, u "asgVals"), (2, u "violations"), (5, u "trailLen"), (2, u "lvlCnt"), (24, u "UNSAT"), (2, u "SAT"), (1, u "UNKNOWN"), (1, u "KIND_CLAUSE"), (0, u "KIND_XOR"), (0, u "BB_FALSE"), (0, u "BB_TRUE"), (0, u "BB_FREE"), (0, u "BB_NONE"), (1, u "ERR_RANGE"), (1, u "ERR_FULL"), (1, u "ERR_EMPTY"), (1, u "MIN_VARS"), (0, u "MAX_VARS"), (1, u "MAX_PENDING"), (1, u "MAX_CLAUSES"), (1, u "MAX_XORS"), (5, u "addLiteral"), (0, u "(IZ)I"), (1, u "pendingLength"), (0, u "commitClause"), (1, u "popConstraint"), (0, u "clauseCount")] 8

def k2c0 : Code := { maxStack := 3, maxLocals := 3, code := prog_1_method_1_code, exceptionTable := #[], attributes := #[] }
def k2m0 : Method := { name := "<init>", desc := "(I)V", sig := { parameters := [.int], returnType := none }, accessFlags := 1, code := some k2c0 }
def k2c1 : Code := { maxStack := 3, maxLocals := 3, code := prog_1_method_3_code, exceptionTable := #[], attributes := #[] }
def k2m1 : Method := { name := "addLiteral", desc := "(IZ)I", sig := { parameters := [.int, .boolean], returnType := some .int }, accessFlags := 1, code := some k2c1 }
def k2c2 : Code := { maxStack := 1, maxLocals := 1, code := prog_1_method_5_code, exceptionTable := #[], attributes := #[] }
def k2m2 : Method := { name := "pendingLength", desc := "()I", sig := { parameters := [], returnType := some .int }, accessFlags := 1, code := some k2c2 }
def k2c3 : Code := { maxStack := 4, maxLocals := 2, code := prog_1_method_6_code, exceptionTable := #[], attributes := #[] }
def k2m3 : Method := { name := "commitClause", desc := "()I", sig := { parameters := [], returnType := some .int }, accessFlags := 1, code := some k2c3 }
def k2c4 : Code := { maxStack := 3, maxLocals := 2, code := prog_1_method_8_code, exceptionTable := #[], attributes := #[] }
def k2m4 : Method := { name := "popConstraint", desc := "()I", sig := { parameters := [], returnType := some .int }, accessFlags := 1, code := some k2c4 }
def k2c5 : Code := { maxStack := 1, maxLocals := 1, code := prog_1_method_9_code, exceptionTable := #[], attributes := #[] }
def k2m5 : Method := { name := "clauseCount", desc := "()I", sig := { parameters := [], returnType := some .int }, accessFlags := 1, code := some k2c5 }
def k2c6 : Code := { maxStack := 1, maxLocals := 1, code := prog_1_method_12_code, exceptionTable := #[], attributes := #[] }
def k2m6 : Method := { name := "status", desc := "()I", sig := { parameters := [], returnType := some .int }, accessFlags := 1, code := some k2c6 }
def k2c7 : Code := { maxStack := 3, maxLocals := 5, code := prog_1_method_15_code, exceptionTable := #[], attributes := #[] }
def k2m7 : Method := { name := "violations", desc := "(I)I", sig := { parameters := [.int], returnType := some .int }, accessFlags := 1, code := some k2c7 }
def k2c8 : Code := { maxStack := 4, maxLocals := 4, code := prog_1_method_18_code, exceptionTable := #[], attributes := #[] }
def k2m8 : Method := { name := "pendingMask", desc := "(Z)I", sig := { parameters := [.boolean], returnType := some .int }, accessFlags := 2, code := some k2c8 }
def k2c9 : Code := { maxStack := 3, maxLocals := 2, code := prog_1_method_21_code, exceptionTable := #[], attributes := #[] }
def k2m9 : Method := { name := "pushOrder", desc := "(I)V", sig := { parameters := [.int], returnType := none }, accessFlags := 2, code := some k2c9 }
def k2c10 : Code := { maxStack := 4, maxLocals := 4, code := prog_1_method_22_code, exceptionTable := #[], attributes := #[] }
def k2m10 : Method := { name := "clauseHolds", desc := "(II)Z", sig := { parameters := [.int, .int], returnType := some .boolean }, accessFlags := 2, code := some k2c10 }
/-- XorGaussSat -/
def k2 : Class := { plain "XorGaussSat" (some 0) with
  accessFlags := 49
  interfaces := #[]
  cf := some (fileOf pool2 8 #[] #[{ accessFlags := 1, nameIndex := 5, descriptorIndex := 104, attributes := #[] }, { accessFlags := 1, nameIndex := 258, descriptorIndex := 259, attributes := #[] }, { accessFlags := 1, nameIndex := 261, descriptorIndex := 108, attributes := #[] }, { accessFlags := 1, nameIndex := 262, descriptorIndex := 108, attributes := #[] }, { accessFlags := 1, nameIndex := 264, descriptorIndex := 108, attributes := #[] }, { accessFlags := 1, nameIndex := 265, descriptorIndex := 108, attributes := #[] }, { accessFlags := 1, nameIndex := 71, descriptorIndex := 108, attributes := #[] }, { accessFlags := 1, nameIndex := 191, descriptorIndex := 134, attributes := #[] }, { accessFlags := 2, nameIndex := 99, descriptorIndex := 100, attributes := #[] }, { accessFlags := 2, nameIndex := 103, descriptorIndex := 104, attributes := #[] }, { accessFlags := 2, nameIndex := 121, descriptorIndex := 115, attributes := #[] }] 49 2 #[] #[{ accessFlags := 25, nameIndex := 225, descriptorIndex := 65, attributes := #[] }, { accessFlags := 25, nameIndex := 228, descriptorIndex := 65, attributes := #[] }, { accessFlags := 25, nameIndex := 230, descriptorIndex := 65, attributes := #[] }, { accessFlags := 25, nameIndex := 232, descriptorIndex := 65, attributes := #[] }, { accessFlags := 25, nameIndex := 233, descriptorIndex := 65, attributes := #[] }, { accessFlags := 25, nameIndex := 234, descriptorIndex := 65, attributes := #[] }, { accessFlags := 25, nameIndex := 235, descriptorIndex := 65, attributes := #[] }, { accessFlags := 25, nameIndex := 236, descriptorIndex := 65, attributes := #[] }, { accessFlags := 25, nameIndex := 237, descriptorIndex := 65, attributes := #[] }, { accessFlags := 25, nameIndex := 239, descriptorIndex := 65, attributes := #[] }, { accessFlags := 25, nameIndex := 241, descriptorIndex := 65, attributes := #[] }, { accessFlags := 25, nameIndex := 243, descriptorIndex := 65, attributes := #[] }, { accessFlags := 25, nameIndex := 245, descriptorIndex := 65, attributes := #[] }, { accessFlags := 25, nameIndex := 246, descriptorIndex := 65, attributes := #[] }, { accessFlags := 25, nameIndex := 248, descriptorIndex := 65, attributes := #[] }, { accessFlags := 25, nameIndex := 250, descriptorIndex := 65, attributes := #[] }, { accessFlags := 25, nameIndex := 252, descriptorIndex := 65, attributes := #[] }, { accessFlags := 2, nameIndex := 64, descriptorIndex := 65, attributes := #[] }, { accessFlags := 2, nameIndex := 68, descriptorIndex := 65, attributes := #[] }, { accessFlags := 2, nameIndex := 71, descriptorIndex := 65, attributes := #[] }, { accessFlags := 2, nameIndex := 74, descriptorIndex := 65, attributes := #[] }, { accessFlags := 18, nameIndex := 11, descriptorIndex := 12, attributes := #[] }, { accessFlags := 18, nameIndex := 15, descriptorIndex := 16, attributes := #[] }, { accessFlags := 2, nameIndex := 77, descriptorIndex := 65, attributes := #[] }, { accessFlags := 18, nameIndex := 19, descriptorIndex := 12, attributes := #[] }, { accessFlags := 18, nameIndex := 22, descriptorIndex := 12, attributes := #[] }, { accessFlags := 2, nameIndex := 80, descriptorIndex := 65, attributes := #[] }, { accessFlags := 18, nameIndex := 25, descriptorIndex := 12, attributes := #[] }, { accessFlags := 18, nameIndex := 28, descriptorIndex := 12, attributes := #[] }, { accessFlags := 2, nameIndex := 83, descriptorIndex := 65, attributes := #[] }, { accessFlags := 18, nameIndex := 31, descriptorIndex := 12, attributes := #[] }, { accessFlags := 2, nameIndex := 86, descriptorIndex := 65, attributes := #[] }, { accessFlags := 18, nameIndex := 34, descriptorIndex := 12, attributes := #[] }, { accessFlags := 18, nameIndex := 37, descriptorIndex := 12, attributes := #[] }, { accessFlags := 18, nameIndex := 40, descriptorIndex := 12, attributes := #[] }, { accessFlags := 2, nameIndex := 96, descriptorIndex := 65, attributes := #[] }, { accessFlags := 2, nameIndex := 93, descriptorIndex := 90, attributes := #[] }, { accessFlags := 2, nameIndex := 89, descriptorIndex := 90, attributes := #[] }, { accessFlags := 18, nameIndex := 43, descriptorIndex := 12, attributes := #[] }, { accessFlags := 18, nameIndex := 46, descriptorIndex := 12, attributes := #[] }, { accessFlags := 18, nameIndex := 49, descriptorIndex := 12, attributes := #[] }, { accessFlags := 2, nameIndex := 156, descriptorIndex := 65, attributes := #[] }, { accessFlags := 2, nameIndex := 143, descriptorIndex := 65, attributes := #[] }, { accessFlags := 2, nameIndex := 185, descriptorIndex := 65, attributes := #[] }, { accessFlags := 2, nameIndex := 188, descriptorIndex := 65, attributes := #[] }, { accessFlags := 18, nameIndex := 52, descriptorIndex := 12, attributes := #[] }, { accessFlags := 2, nameIndex := 197, descriptorIndex := 65, attributes := #[] }, { accessFlags := 18, nameIndex := 55, descriptorIndex := 12, attributes := #[] }, { accessFlags := 18, nameIndex := 58, descriptorIndex := 12, attributes := #[] }, { accessFlags := 18, nameIndex := 61, descriptorIndex := 16, attributes := #[] }, { accessFlags := 2, nameIndex := 200, descriptorIndex := 65, attributes := #[] }, { accessFlags := 2, nameIndex := 118, descriptorIndex := 65, attributes := #[] }])
  fields := #[{ name := "UNSAT", type := .int, accessFlags := 25, slot := 0, constantValue := 0 }, { name := "SAT", type := .int, accessFlags := 25, slot := 1, constantValue := 0 }, { name := "UNKNOWN", type := .int, accessFlags := 25, slot := 2, constantValue := 0 }, { name := "KIND_CLAUSE", type := .int, accessFlags := 25, slot := 3, constantValue := 0 }, { name := "KIND_XOR", type := .int, accessFlags := 25, slot := 4, constantValue := 0 }, { name := "BB_FALSE", type := .int, accessFlags := 25, slot := 5, constantValue := 0 }, { name := "BB_TRUE", type := .int, accessFlags := 25, slot := 6, constantValue := 0 }, { name := "BB_FREE", type := .int, accessFlags := 25, slot := 7, constantValue := 0 }, { name := "BB_NONE", type := .int, accessFlags := 25, slot := 8, constantValue := 0 }, { name := "ERR_RANGE", type := .int, accessFlags := 25, slot := 9, constantValue := 0 }, { name := "ERR_FULL", type := .int, accessFlags := 25, slot := 10, constantValue := 0 }, { name := "ERR_EMPTY", type := .int, accessFlags := 25, slot := 11, constantValue := 0 }, { name := "MIN_VARS", type := .int, accessFlags := 25, slot := 12, constantValue := 0 }, { name := "MAX_VARS", type := .int, accessFlags := 25, slot := 13, constantValue := 0 }, { name := "MAX_PENDING", type := .int, accessFlags := 25, slot := 14, constantValue := 0 }, { name := "MAX_CLAUSES", type := .int, accessFlags := 25, slot := 15, constantValue := 0 }, { name := "MAX_XORS", type := .int, accessFlags := 25, slot := 16, constantValue := 0 }, { name := "n", type := .int, accessFlags := 2, slot := 0, constantValue := 0 }, { name := "fullMask", type := .int, accessFlags := 2, slot := 1, constantValue := 0 }, { name := "status", type := .int, accessFlags := 2, slot := 2, constantValue := 0 }, { name := "model", type := .int, accessFlags := 2, slot := 3, constantValue := 0 }, { name := "pendVar", type := (.array .int), accessFlags := 18, slot := 4, constantValue := 0 }, { name := "pendNeg", type := (.array .boolean), accessFlags := 18, slot := 5, constantValue := 0 }, { name := "pendLen", type := .int, accessFlags := 2, slot := 6, constantValue := 0 }, { name := "clausePos", type := (.array .int), accessFlags := 18, slot := 7, constantValue := 0 }, { name := "clauseNeg", type := (.array .int), accessFlags := 18, slot := 8, constantValue := 0 }, { name := "clauseCnt", type := .int, accessFlags := 2, slot := 9, constantValue := 0 }, { name := "xorMask", type := (.array .int), accessFlags := 18, slot := 10, constantValue := 0 }, { name := "xorRhs", type := (.array .int), accessFlags := 18, slot := 11, constantValue := 0 }, { name := "xorCnt", type := .int, accessFlags := 2, slot := 12, constantValue := 0 }, { name := "order", type := (.array .int), accessFlags := 18, slot := 13, constantValue := 0 }, { name := "orderLen", type := .int, accessFlags := 2, slot := 14, constantValue := 0 }, { name := "echMask", type := (.array .int), accessFlags := 18, slot := 15, constantValue := 0 }, { name := "echRhs", type := (.array .int), accessFlags := 18, slot := 16, constantValue := 0 }, { name := "echPivot", type := (.array .int), accessFlags := 18, slot := 17, constantValue := 0 }, { name := "echRank", type := .int, accessFlags := 2, slot := 18, constantValue := 0 }, { name := "echConsistent", type := .boolean, accessFlags := 2, slot := 19, constantValue := 0 }, { name := "echValid", type := .boolean, accessFlags := 2, slot := 20, constantValue := 0 }, { name := "gMask", type := (.array .int), accessFlags := 18, slot := 21, constantValue := 0 }, { name := "gRhs", type := (.array .int), accessFlags := 18, slot := 22, constantValue := 0 }, { name := "gPivot", type := (.array .int), accessFlags := 18, slot := 23, constantValue := 0 }, { name := "gRows", type := .int, accessFlags := 2, slot := 24, constantValue := 0 }, { name := "gRank", type := .int, accessFlags := 2, slot := 25, constantValue := 0 }, { name := "asgMask", type := .int, accessFlags := 2, slot := 26, constantValue := 0 }, { name := "asgVals", type := .int, accessFlags := 2, slot := 27, constantValue := 0 }, { name := "trail", type := (.array .int), accessFlags := 18, slot := 28, constantValue := 0 }, { name := "trailLen", type := .int, accessFlags := 2, slot := 29, constantValue := 0 }, { name := "lvlVar", type := (.array .int), accessFlags := 18, slot := 30, constantValue := 0 }, { name := "lvlStart", type := (.array .int), accessFlags := 18, slot := 31, constantValue := 0 }, { name := "lvlFlipped", type := (.array .boolean), accessFlags := 18, slot := 32, constantValue := 0 }, { name := "lvlCnt", type := .int, accessFlags := 2, slot := 33, constantValue := 0 }, { name := "found", type := .int, accessFlags := 2, slot := 34, constantValue := 0 }]
  methods := #[k2m0, k2m1, k2m2, k2m3, k2m4, k2m5, k2m6, k2m7, k2m8, k2m9, k2m10]
  instanceTypes := #[.int, .int, .int, .int, (.array .int), (.array .boolean), .int, (.array .int), (.array .int), .int, (.array .int), (.array .int), .int, (.array .int), .int, (.array .int), (.array .int), (.array .int), .int, .boolean, .boolean, (.array .int), (.array .int), (.array .int), .int, .int, .int, .int, (.array .int), .int, (.array .int), (.array .int), (.array .boolean), .int, .int]
  staticTypes := #[.int, .int, .int, .int, .int, .int, .int, .int, .int, .int, .int, .int, .int, .int, .int, .int, .int]
  resolved := Array.replicate 274 none
  statics := none }

def pool3 : Array CpInfo := pool [(1, u "java/lang/Cloneable"), (0, .class_ 1), (0, u "java/lang/Object"), (0, .class_ 3)] 3

/-- java/lang/Cloneable -/
def k3 : Class := { plain "java/lang/Cloneable" (some 0) with
  accessFlags := 1537
  interfaces := #[]
  cf := some (fileOf pool3 2 #[] #[] 1537 4 #[] #[])
  fields := #[]
  methods := #[]
  instanceTypes := #[]
  staticTypes := #[]
  resolved := Array.replicate 8 none
  statics := none }

def pool4 : Array CpInfo := pool [(1, u "java/io/Serializable"), (0, .class_ 1), (0, u "java/lang/Object"), (0, .class_ 3)] 3

/-- java/io/Serializable -/
def k4 : Class := { plain "java/io/Serializable" (some 0) with
  accessFlags := 1537
  interfaces := #[]
  cf := some (fileOf pool4 2 #[] #[] 1537 4 #[] #[])
  fields := #[]
  methods := #[]
  instanceTypes := #[]
  staticTypes := #[]
  resolved := Array.replicate 8 none
  statics := none }

/-- the primitive boolean -/
def k5 : Class := { plain "boolean" none with kind := .primitive 'Z', accessFlags := 0x411 }
/-- [Z -/
def k6 : Class := { plain "[Z" (some 0) with kind := .array 5 .boolean, interfaces := #[3, 4], accessFlags := 1041 }

/-- the primitive byte -/
def k7 : Class := { plain "byte" none with kind := .primitive 'B', accessFlags := 0x411 }
/-- [B -/
def k8 : Class := { plain "[B" (some 0) with kind := .array 7 .byte, interfaces := #[3, 4], accessFlags := 1041 }

/-- the primitive int -/
def k9 : Class := { plain "int" none with kind := .primitive 'I', accessFlags := 0x411 }
/-- [I -/
def k10 : Class := { plain "[I" (some 0) with kind := .array 9 .int, interfaces := #[3, 4], accessFlags := 1041 }

def heap : Heap := #[]
def classes : Array Class := #[k0, k1, k2, k3, k4, k5, k6, k7, k8, k9, k10]
def interned : List (Array UInt16 × Addr) := []
def slotsUsed : Nat := 0
def theMethod : MethodId := ⟨1, 1⟩
def args0 : Array Value := #[.int 3, .int 2, .int 1]
def aboutOver (below : List Frame) : State where
  vm := { classes := classes, interned := interned.toArray }
  heap := heap
  slotsUsed := slotsUsed
  threads := #[{ frames := .invoking theMethod args0 :: below }]
def below0 : List Frame := [.native { method := ⟨0, 0⟩, args := #[] }]
def about1 : State := aboutOver below0
def p0 : Program := .bare "" "" ""
def e0 : Env := launch0.env 0 0 0
theorem w_frames : about1.frames = Frame.invoking theMethod args0 :: below0 := rfl
set_option maxRecDepth 65536 in
theorem w_args : argsFit about1.vm theMethod args0 = true := by decide +kernel
set_option maxRecDepth 65536 in
theorem w_heap : heapFits about1 = true := by decide +kernel
set_option maxRecDepth 65536 in
theorem w_runnable : about1.curStatus? = some .runnable := by decide +kernel
set_option maxRecDepth 65536 in
theorem w_alone : about1.alone = true := by decide +kernel
set_option maxRecDepth 65536 in
theorem w_named : about1.methodNamed? x = some theMethod := by decide +kernel
set_option maxRecDepth 65536 in
theorem w_hears : about1.hears theMethod below0 = true := by decide +kernel
set_option maxRecDepth 65536 in
theorem w_ripe : about1.ripe theMethod args0 below0 = true := by decide +kernel
theorem w_running : about1.status = .running := rfl
set_option maxRecDepth 65536 in
theorem w_room : about1.hasRoom e0.platform room_1 = true :=
  launch0.hasRoom_least _ room_1 (by decide +kernel) (by decide +kernel) (by decide +kernel) (by decide +kernel) (by decide +kernel) (by decide +kernel)
theorem allAtoms_all (ts : List Jvm.Cond) (a : Array Jvm.Value) (st : Jvm.State) : (allAtoms ts).before a st = ts.all (fun c => c.before a st) := by
  induction ts with
  | nil => rfl
  | cons c t ih =>
    show (Jvm.Cond.and c (allAtoms t)).before a st = _
    rw [Jvm.Cond.before_and, ih, List.all_cons]
def words1 : List Jvm.Cond := Jvm.Cond.code x code maxLocals ret :: tables_1
/-- a 'code' word, met by the world's own term for the bytes: nothing is compared byte by byte -/
theorem code_word {y : MethodName} {bytes : ByteArray} {mx : Nat} {rt : Option FieldType} {a : Array Value} {s : State} {m : MethodId} {meth : Method} {c : Code} (h1 : s.methodNamed? y = some m) (h2 : s.vm.method? m = some meth) (h3 : meth.code = some c) (h4 : c.code = bytes)
    (h5 : (c.maxLocals == mx && c.exceptionTable.isEmpty && decide (c.maxStack ≤ mostOperands) && decide (meth.sig.returnType = rt) && !meth.locks && decide (parseMethodDescriptor y.desc = some meth.sig)) = true) : (Jvm.Cond.code y bytes mx rt).before a s = true := by
  simp only [Bool.and_eq_true, beq_iff_eq, Bool.not_eq_true', decide_eq_true_eq] at h5
  obtain ⟨⟨⟨⟨⟨g1, g2⟩, g3⟩, g4⟩, g5⟩, g6⟩ := h5
  simp [Cond.before, Cond.holds, Cond.value, h1, h2, h3, h4, g1, g2, g3, g4, g5, g6]
def isCode : Jvm.Cond → Bool
  | .code _ _ _ _ => true
  | _ => false
theorem all_split {L : List Jvm.Cond} {P : Jvm.Cond → Bool} (h1 : L.all (fun c => isCode c || P c) = true) (h2 : ∀ c ∈ L.filter isCode, P c = true) : L.all P = true := by
  refine List.all_eq_true.mpr fun c hc => ?_
  have h := List.all_eq_true.mp h1 c hc
  rcases Bool.eq_false_or_eq_true (isCode c) with hi | hi
  · exact h2 c (List.mem_filter.mpr ⟨hc, hi⟩)
  · simpa [hi] using h
set_option maxRecDepth 65536 in
theorem w_c0 : (Jvm.Cond.code x code maxLocals ret).before args0 about1 = true := code_word (m := ⟨1, 1⟩) (meth := k1m1) (c := k1c1) (by decide +kernel) rfl rfl rfl (by decide +kernel)
set_option maxRecDepth 65536 in
theorem w_c1 : (Jvm.Cond.code ({ cls := "XorGaussSat", name := "<init>", desc := "(I)V" } : Jvm.MethodName) prog_1_method_1_code (3 : Nat) (Option.none : Option Jvm.ClassFile.FieldType)).before args0 about1 = true := code_word (m := ⟨2, 0⟩) (meth := k2m0) (c := k2c0) (by decide +kernel) rfl rfl rfl (by decide +kernel)
set_option maxRecDepth 65536 in
theorem w_c2 : (Jvm.Cond.code ({ cls := "java/lang/Object", name := "<init>", desc := "()V" } : Jvm.MethodName) object_method_1_code (1 : Nat) (Option.none : Option Jvm.ClassFile.FieldType)).before args0 about1 = true := code_word (m := ⟨0, 0⟩) (meth := k0m0) (c := k0c0) (by decide +kernel) rfl rfl rfl (by decide +kernel)
set_option maxRecDepth 65536 in
theorem w_c3 : (Jvm.Cond.code ({ cls := "XorGaussSat", name := "addLiteral", desc := "(IZ)I" } : Jvm.MethodName) prog_1_method_3_code (3 : Nat) (Option.some Jvm.ClassFile.FieldType.int)).before args0 about1 = true := code_word (m := ⟨2, 1⟩) (meth := k2m1) (c := k2c1) (by decide +kernel) rfl rfl rfl (by decide +kernel)
set_option maxRecDepth 65536 in
theorem w_c4 : (Jvm.Cond.code ({ cls := "XorGaussSat", name := "commitClause", desc := "()I" } : Jvm.MethodName) prog_1_method_6_code (2 : Nat) (Option.some Jvm.ClassFile.FieldType.int)).before args0 about1 = true := code_word (m := ⟨2, 3⟩) (meth := k2m3) (c := k2c3) (by decide +kernel) rfl rfl rfl (by decide +kernel)
set_option maxRecDepth 65536 in
theorem w_c5 : (Jvm.Cond.code ({ cls := "XorGaussSat", name := "pendingMask", desc := "(Z)I" } : Jvm.MethodName) prog_1_method_18_code (4 : Nat) (Option.some Jvm.ClassFile.FieldType.int)).before args0 about1 = true := code_word (m := ⟨2, 8⟩) (meth := k2m8) (c := k2c8) (by decide +kernel) rfl rfl rfl (by decide +kernel)
set_option maxRecDepth 65536 in
theorem w_c6 : (Jvm.Cond.code ({ cls := "XorGaussSat", name := "pushOrder", desc := "(I)V" } : Jvm.MethodName) prog_1_method_21_code (2 : Nat) (Option.none : Option Jvm.ClassFile.FieldType)).before args0 about1 = true := code_word (m := ⟨2, 9⟩) (meth := k2m9) (c := k2c9) (by decide +kernel) rfl rfl rfl (by decide +kernel)
set_option maxRecDepth 65536 in
theorem w_c7 : (Jvm.Cond.code ({ cls := "XorGaussSat", name := "pendingLength", desc := "()I" } : Jvm.MethodName) prog_1_method_5_code (1 : Nat) (Option.some Jvm.ClassFile.FieldType.int)).before args0 about1 = true := code_word (m := ⟨2, 2⟩) (meth := k2m2) (c := k2c2) (by decide +kernel) rfl rfl rfl (by decide +kernel)
set_option maxRecDepth 65536 in
theorem w_c8 : (Jvm.Cond.code ({ cls := "XorGaussSat", name := "clauseCount", desc := "()I" } : Jvm.MethodName) prog_1_method_9_code (1 : Nat) (Option.some Jvm.ClassFile.FieldType.int)).before args0 about1 = true := code_word (m := ⟨2, 5⟩) (meth := k2m5) (c := k2c5) (by decide +kernel) rfl rfl rfl (by decide +kernel)
set_option maxRecDepth 65536 in
theorem w_c9 : (Jvm.Cond.code ({ cls := "XorGaussSat", name := "violations", desc := "(I)I" } : Jvm.MethodName) prog_1_method_15_code (5 : Nat) (Option.some Jvm.ClassFile.FieldType.int)).before args0 about1 = true := code_word (m := ⟨2, 7⟩) (meth := k2m7) (c := k2c7) (by decide +kernel) rfl rfl rfl (by decide +kernel)
set_option maxRecDepth 65536 in
theorem w_c10 : (Jvm.Cond.code ({ cls := "XorGaussSat", name := "clauseHolds", desc := "(II)Z" } : Jvm.MethodName) prog_1_method_22_code (4 : Nat) (Option.some Jvm.ClassFile.FieldType.boolean)).before args0 about1 = true := code_word (m := ⟨2, 10⟩) (meth := k2m10) (c := k2c10) (by decide +kernel) rfl rfl rfl (by decide +kernel)
set_option maxRecDepth 65536 in
theorem w_c11 : (Jvm.Cond.code ({ cls := "XorGaussSat", name := "popConstraint", desc := "()I" } : Jvm.MethodName) prog_1_method_8_code (2 : Nat) (Option.some Jvm.ClassFile.FieldType.int)).before args0 about1 = true := code_word (m := ⟨2, 4⟩) (meth := k2m4) (c := k2c4) (by decide +kernel) rfl rfl rfl (by decide +kernel)
set_option maxRecDepth 65536 in
theorem w_c12 : (Jvm.Cond.code ({ cls := "XorGaussSat", name := "status", desc := "()I" } : Jvm.MethodName) prog_1_method_12_code (1 : Nat) (Option.some Jvm.ClassFile.FieldType.int)).before args0 about1 = true := code_word (m := ⟨2, 6⟩) (meth := k2m6) (c := k2c6) (by decide +kernel) rfl rfl rfl (by decide +kernel)
def codes1 : List Jvm.Cond := [Jvm.Cond.code x code maxLocals ret, Jvm.Cond.code ({ cls := "XorGaussSat", name := "<init>", desc := "(I)V" } : Jvm.MethodName) prog_1_method_1_code (3 : Nat) (Option.none : Option Jvm.ClassFile.FieldType), Jvm.Cond.code ({ cls := "java/lang/Object", name := "<init>", desc := "()V" } : Jvm.MethodName) object_method_1_code (1 : Nat) (Option.none : Option Jvm.ClassFile.FieldType), Jvm.Cond.code ({ cls := "XorGaussSat", name := "addLiteral", desc := "(IZ)I" } : Jvm.MethodName) prog_1_method_3_code (3 : Nat) (Option.some Jvm.ClassFile.FieldType.int), Jvm.Cond.code ({ cls := "XorGaussSat", name := "commitClause", desc := "()I" } : Jvm.MethodName) prog_1_method_6_code (2 : Nat) (Option.some Jvm.ClassFile.FieldType.int), Jvm.Cond.code ({ cls := "XorGaussSat", name := "pendingMask", desc := "(Z)I" } : Jvm.MethodName) prog_1_method_18_code (4 : Nat) (Option.some Jvm.ClassFile.FieldType.int), Jvm.Cond.code ({ cls := "XorGaussSat", name := "pushOrder", desc := "(I)V" } : Jvm.MethodName) prog_1_method_21_code (2 : Nat) (Option.none : Option Jvm.ClassFile.FieldType), Jvm.Cond.code ({ cls := "XorGaussSat", name := "pendingLength", desc := "()I" } : Jvm.MethodName) prog_1_method_5_code (1 : Nat) (Option.some Jvm.ClassFile.FieldType.int), Jvm.Cond.code ({ cls := "XorGaussSat", name := "clauseCount", desc := "()I" } : Jvm.MethodName) prog_1_method_9_code (1 : Nat) (Option.some Jvm.ClassFile.FieldType.int), Jvm.Cond.code ({ cls := "XorGaussSat", name := "violations", desc := "(I)I" } : Jvm.MethodName) prog_1_method_15_code (5 : Nat) (Option.some Jvm.ClassFile.FieldType.int), Jvm.Cond.code ({ cls := "XorGaussSat", name := "clauseHolds", desc := "(II)Z" } : Jvm.MethodName) prog_1_method_22_code (4 : Nat) (Option.some Jvm.ClassFile.FieldType.boolean), Jvm.Cond.code ({ cls := "XorGaussSat", name := "popConstraint", desc := "()I" } : Jvm.MethodName) prog_1_method_8_code (2 : Nat) (Option.some Jvm.ClassFile.FieldType.int), Jvm.Cond.code ({ cls := "XorGaussSat", name := "status", desc := "()I" } : Jvm.MethodName) prog_1_method_12_code (1 : Nat) (Option.some Jvm.ClassFile.FieldType.int)]
set_option maxRecDepth 65536 in
theorem codes_eq : words1.filter isCode = codes1 := rfl
theorem w_codes : ∀ c ∈ words1.filter isCode, c.before args0 about1 = true := by
  rw [codes_eq]
  intro c hc
  simp only [codes1, List.mem_cons, List.not_mem_nil, or_false] at hc
  rcases hc with rfl | rfl | rfl | rfl | rfl | rfl | rfl | rfl | rfl | rfl | rfl | rfl | rfl
  · exact w_c0
  · exact w_c1
  · exact w_c2
  · exact w_c3
  · exact w_c4
  · exact w_c5
  · exact w_c6
  · exact w_c7
  · exact w_c8
  · exact w_c9
  · exact w_c10
  · exact w_c11
  · exact w_c12
set_option maxRecDepth 65536 in
theorem w_t1 : (words1.take 24).all (fun c => isCode c || c.before args0 about1) = true := by decide +kernel
set_option maxRecDepth 65536 in
theorem w_t2 : ((words1.drop 24).take 24).all (fun c => isCode c || c.before args0 about1) = true := by decide +kernel
set_option maxRecDepth 65536 in
theorem w_t3 : (((words1.drop 24).drop 24).take 24).all (fun c => isCode c || c.before args0 about1) = true := by decide +kernel
set_option maxRecDepth 65536 in
theorem w_t4 : ((((words1.drop 24).drop 24).drop 24).take 24).all (fun c => isCode c || c.before args0 about1) = true := by decide +kernel
set_option maxRecDepth 65536 in
theorem w_t5 : ((((words1.drop 24).drop 24).drop 24).drop 24).all (fun c => isCode c || c.before args0 about1) = true := by decide +kernel
theorem w_tables : (allAtoms (Jvm.Cond.code x code maxLocals ret :: tables_1)).before args0 about1 = true := by
  rw [allAtoms_all]
  show words1.all (fun c => c.before args0 about1) = true
  refine all_split ?_ w_codes
  rw [← List.take_append_drop 24 words1, List.all_append, w_t1, ← List.take_append_drop 24 (words1.drop 24), List.all_append, w_t2, ← List.take_append_drop 24 ((words1.drop 24).drop 24), List.all_append, w_t3, ← List.take_append_drop 24 (((words1.drop 24).drop 24).drop 24), List.all_append, w_t4, w_t5]
  rfl
set_option maxRecDepth 65536 in
theorem w_case : (Jvm.Cond.and given_1 narrow_1).before args0 about1 = true := by decide +kernel
theorem w_applies : (headSpec (Jvm.Cond.code x code maxLocals ret :: tables_1) room_1).applies x e0.platform about1 = true :=
  (Spec.applies_iff w_frames).mpr ⟨w_running, w_runnable, w_alone, w_named, w_hears, w_ripe, w_room, w_tables⟩
theorem atStart : AtStart classFile x code maxLocals ret World_1 tables_1 room_1 Calls_1 rest_1 Pre_1 launch0 p0 e0 about1 theMethod args0 below0 :=
  ⟨lists_1, trivial, launch0.admits_env _ _ _, launch0.least_env, fairChoices_fair.cas, fairChoices_fair.clock, w_frames, w_args, w_heap, w_applies, trivial, trivial, w_case⟩
end start1
theorem witness_1 : WitnessClaimed_1 := ⟨start1.p0, start1.e0, start1.about1, start1.theMethod, start1.args0, start1.below0, start1.atStart⟩
end Jvm.Pilot.@@N@@
