import JvmDerived
import JvmDerived.Pilot.@@N@@Statement
import JvmDerived.Pilot.@@N@@Code
set_option linter.unusedVariables false
set_option linter.unusedSimpArgs false
namespace Jvm.RoadKit
open Sem ClassFile Op Lib Jvm.Stand Jvm.Free Jvm.LawKit
section New
variable {p : Program} {l : Launch} {e : Env} {R : Room} {s : State} {m : MethodId} {args : Array Value} {below : List Frame} {meth : Method} {c : Code} {T : State} {locs : List Loc} {cells slots : Nat}
theorem retI (X : Stand p l e R s m args below meth c T locs cells slots) (hx : p.tables.exec = Jvm.exec) {pc : Nat} {Ls : Array Slot} {z : Int32} {rest : List Value} (hret : meth.sig.returnType = some .int) (hd : decode c.code pc = .ok (.ireturn, 1)) {fs : List Frame}
    (hl : ∀ (f : JFrame) (acts : List Action), f.method = m → f.locked = none → f.entered = [] → (doReturn e (T.setTop f) acts (some (.int z))).1 = T.setFrames fs) : Steps p.tables e below (T.setTop (mkF m pc Ls (.int z :: rest))) (T.setFrames fs) := by
  have hm' : T.vm.method? m = some meth := X.method'
  have hn : narrow .int (.int z) = .int z := rfl
  show Steps p.tables e below (T.setTop { method := m, pc := pc, locals := Ls, stack := _ :: rest, locked := none }) _
  jvm_step X.here [X.here.top, hx, hd, hm', hret, hn]
  first | (intro acts; rw [hl _ acts rfl rfl rfl]) | rw [hl _ _ rfl rfl rfl]
  exact Steps.refl _
end New
end Jvm.RoadKit
namespace Jvm.Pilot.@@N@@
open Jvm Jvm.ClassFile Sem Op Lib Jvm.Free Jvm.Stand Jvm.LawKit Jvm.RoadKit Bundle Jvm.Pilot.@@N@@.Jvm.D
/- records: scalars, int-like arrays, long arrays -/
abbrev Rec : Type := (Nat → Int32) × (Nat → Int32 → Int32) × (Nat → Int32 → Int64)
def zrec : Rec := (fun _ => 0, fun _ _ => 0, fun _ _ => 0)
def gI (ob : Rec) (k : Nat) : Int32 := ob.1 k
def gA (ob : Rec) (k : Nat) (i : Int32) : Int32 := ob.2.1 k i
def gJ (ob : Rec) (k : Nat) (i : Int32) : Int64 := ob.2.2 k i
def sI (ob : Rec) (k : Nat) (v : Int32) : Rec := (fun j => if j = k then v else ob.1 j, ob.2)
def sA (ob : Rec) (k : Nat) (i v : Int32) : Rec := (ob.1, fun j x => if j = k ∧ x = i then v else ob.2.1 j x, ob.2.2)
def sJ (ob : Rec) (k : Nat) (i : Int32) (v : Int64) : Rec := (ob.1, ob.2.1, fun j x => if j = k ∧ x = i then v else ob.2.2 j x)
def chk {γ : Type} (n i : Int32) (A : Option γ) : Option γ := if i < 0 then none else if i < n then A else none
def dvz {γ : Type} (y : Int32) (A : Option γ) : Option γ := if y = 0 then none else A
def bind2 {α β γ : Type} (o : Option (α × β)) (f : α → β → Option γ) : Option γ := o.bind fun q => f q.1 q.2
def bind3 {α β γ δ : Type} (o : Option (α × β × δ)) (f : α → β → δ → Option γ) : Option γ := o.bind fun q => f q.1 q.2.1 q.2.2
theorem ite_el {c : Prop} [Decidable c] {γ : Type} {A B : Option γ} {r : γ} {Q : Prop} (h : (if c then A else B) = some r) (t : c → A = some r → Q) (e : ¬ c → B = some r → Q) : Q := by
  by_cases hc : c
  · rw [if_pos hc] at h; exact t hc h
  · rw [if_neg hc] at h; exact e hc h
theorem bind_el {α γ : Type} {o : Option α} {f : α → Option γ} {r : γ} {Q : Prop} (h : o.bind f = some r) (k : ∀ x, o = some x → f x = some r → Q) : Q := by
  cases o with
  | none => cases h
  | some x => exact k x rfl h
theorem bind2_el {α β γ : Type} {o : Option (α × β)} {f : α → β → Option γ} {r : γ} {Q : Prop} (h : bind2 o f = some r) (k : ∀ x y, o = some (x, y) → f x y = some r → Q) : Q := by
  rcases o with _ | ⟨x, y⟩
  · cases h
  · exact k x y rfl h
theorem bind3_el {α β γ δ : Type} {o : Option (α × β × δ)} {f : α → β → δ → Option γ} {r : γ} {Q : Prop} (h : bind3 o f = some r) (k : ∀ x y z, o = some (x, y, z) → f x y z = some r → Q) : Q := by
  rcases o with _ | ⟨x, y, z⟩
  · cases h
  · exact k x y z rfl h
theorem chk_el {γ : Type} {n i : Int32} {A : Option γ} {r : γ} {Q : Prop} (h : chk n i A = some r) (k : (¬ i < 0 ∧ i < n) → A = some r → Q) : Q := by
  unfold chk at h
  by_cases h0 : i < 0
  · rw [if_pos h0] at h; cases h
  · rw [if_neg h0] at h
    by_cases h1 : i < n
    · rw [if_pos h1] at h; exact k ⟨h0, h1⟩ h
    · rw [if_neg h1] at h; cases h
theorem dvz_el {γ : Type} {y : Int32} {A : Option γ} {r : γ} {Q : Prop} (h : dvz y A = some r) (k : y ≠ 0 → A = some r → Q) : Q := by
  unfold dvz at h
  by_cases h0 : y = 0
  · rw [if_pos h0] at h; cases h
  · rw [if_neg h0] at h; exact k h0 h
def All {α : Type} (p : α → Prop) : List α → Prop
  | [] => True
  | x :: l => p x ∧ All p l
theorem All.mem {α : Type} {p : α → Prop} : ∀ {l : List α}, All p l → ∀ {x : α}, x ∈ l → p x
  | [], _, _, h => nomatch h
  | _ :: _, H, _, h => (List.mem_cons.mp h).elim (fun e => e ▸ H.1) (fun e => All.mem H.2 e)
def el (ty : FieldType) (ob : Rec) (k : Nat) (j : Int32) : Value := match ty with
  | .long => .long (ob.2.2 k j)
  | _ => .int (ob.2.1 k j)
def aD (ty : FieldType) : String := match ty with
  | .int => "[I"
  | .boolean => "[Z"
  | _ => "[J"
abbrev Cls : Type := String × List (String × String) × List (String × FieldType × Int32)
abbrev mem1 (k : Nat) {d : Jvm.Cond} (h : tables_1[k]? = some d) : d ∈ tables_1 := List.mem_of_getElem? h
abbrev sOk (C : String) (nd : String × String) : Prop := (Jvm.Cond.lays C C nd.1 nd.2 ∈ tables_1 ∨ Jvm.Cond.laysFinal C C nd.1 nd.2 ∈ tables_1) ∧ (nd.2 = "I" ∨ nd.2 = "Z")
abbrev aOk (C : String) (t : String × FieldType × Int32) : Prop := (Jvm.Cond.lays C C t.1 (aD t.2.1) ∈ tables_1 ∨ Jvm.Cond.laysFinal C C t.1 (aD t.2.1) ∈ tables_1) ∧ (t.2.1 = .int ∨ t.2.1 = .boolean ∨ t.2.1 = .long) ∧ ¬ t.2.2 < 0
def K : Cls := ("LogicalReplicator", [("nKeys", "I"), ("nSlots", "I"), ("logCap", "I"), ("memCap", "I"), ("length", "I"), ("emittedPos", "I"), ("appliedPos", "I"), ("confirmedPos", "I"), ("qHead", "I"), ("qCount", "I")], [("recKind", .int, 129), ("recSlot", .int, 129), ("recKey", .int, 129), ("recVal", .int, 129), ("recBegin", .int, 129), ("slotOpen", .boolean, 8), ("slotBegin", .int, 8), ("pubHas", .boolean, 32), ("pubVal", .int, 32), ("subHas", .boolean, 32), ("subVal", .int, 32), ("pendKind", .int, 32), ("pendVal", .int, 32), ("qKind", .int, 128), ("qKey", .int, 128), ("qVal", .int, 128), ("qPos", .int, 128)])
theorem kS : All (sOk K.1) K.2.1 := ⟨⟨Or.inl (mem1 50 rfl), Or.inl rfl⟩, ⟨Or.inl (mem1 52 rfl), Or.inl rfl⟩, ⟨Or.inl (mem1 54 rfl), Or.inl rfl⟩, ⟨Or.inl (mem1 56 rfl), Or.inl rfl⟩, ⟨Or.inl (mem1 58 rfl), Or.inl rfl⟩, ⟨Or.inl (mem1 60 rfl), Or.inl rfl⟩, ⟨Or.inl (mem1 62 rfl), Or.inl rfl⟩, ⟨Or.inl (mem1 64 rfl), Or.inl rfl⟩, ⟨Or.inl (mem1 66 rfl), Or.inl rfl⟩, ⟨Or.inl (mem1 68 rfl), Or.inl rfl⟩, trivial⟩
theorem kA : All (aOk K.1) K.2.2 := ⟨⟨Or.inl (mem1 11 rfl), Or.inl rfl, by decide⟩, ⟨Or.inl (mem1 13 rfl), Or.inl rfl, by decide⟩, ⟨Or.inl (mem1 15 rfl), Or.inl rfl, by decide⟩, ⟨Or.inl (mem1 17 rfl), Or.inl rfl, by decide⟩, ⟨Or.inl (mem1 19 rfl), Or.inl rfl, by decide⟩, ⟨Or.inl (mem1 22 rfl), Or.inr (Or.inl rfl), by decide⟩, ⟨Or.inl (mem1 24 rfl), Or.inl rfl, by decide⟩, ⟨Or.inl (mem1 26 rfl), Or.inr (Or.inl rfl), by decide⟩, ⟨Or.inl (mem1 28 rfl), Or.inl rfl, by decide⟩, ⟨Or.inl (mem1 30 rfl), Or.inr (Or.inl rfl), by decide⟩, ⟨Or.inl (mem1 32 rfl), Or.inl rfl, by decide⟩, ⟨Or.inl (mem1 34 rfl), Or.inl rfl, by decide⟩, ⟨Or.inl (mem1 36 rfl), Or.inl rfl, by decide⟩, ⟨Or.inl (mem1 38 rfl), Or.inl rfl, by decide⟩, ⟨Or.inl (mem1 40 rfl), Or.inl rfl, by decide⟩, ⟨Or.inl (mem1 42 rfl), Or.inl rfl, by decide⟩, ⟨Or.inl (mem1 44 rfl), Or.inl rfl, by decide⟩, trivial⟩
abbrev kN : Nat := 27
theorem kI : Jvm.Cond.instantiable K.1 kN ∈ tables_1 := mem1 1 rfl
theorem kZ : Jvm.Cond.initialized K.1 ∈ tables_1 := mem1 2 rfl
theorem kNm : (K.2.1.map (·.1) ++ K.2.2.map (·.1)).Nodup := by decide +kernel
theorem nm_ss {k k' : Nat} {nd nd' : String × String} (h : K.2.1[k]? = some nd) (h' : K.2.1[k']? = some nd') (ne : k ≠ k') : nd.1 ≠ nd'.1 := fun e => by
  have l := (List.getElem?_eq_some_iff.mp h).1
  have l' := (List.getElem?_eq_some_iff.mp h').1
  refine ne ((List.getElem?_inj (l := K.2.1.map (·.1) ++ K.2.2.map (·.1)) (i := k) (j := k') (by simp; omega) kNm).mp ?_)
  rw [List.getElem?_append_left (by simpa using l), List.getElem?_append_left (by simpa using l'), List.getElem?_map, List.getElem?_map, h, h']
  simp [e]
theorem nm_aa {k k' : Nat} {t t' : String × FieldType × Int32} (h : K.2.2[k]? = some t) (h' : K.2.2[k']? = some t') (ne : k ≠ k') : t.1 ≠ t'.1 := fun e => by
  have l := (List.getElem?_eq_some_iff.mp h).1
  have l' := (List.getElem?_eq_some_iff.mp h').1
  have q := (List.getElem?_inj (l := K.2.1.map (·.1) ++ K.2.2.map (·.1)) (i := K.2.1.length + k) (j := K.2.1.length + k') (by simp; omega) kNm).mp (by
    rw [List.getElem?_append_right (by simp), List.getElem?_append_right (by simp)]
    simp [h, h', e])
  omega
theorem nm_sa {k k' : Nat} {nd : String × String} {t : String × FieldType × Int32} (h : K.2.1[k]? = some nd) (h' : K.2.2[k']? = some t) : nd.1 ≠ t.1 := fun e => by
  have l := (List.getElem?_eq_some_iff.mp h).1
  have l' := (List.getElem?_eq_some_iff.mp h').1
  have q := (List.getElem?_inj (l := K.2.1.map (·.1) ++ K.2.2.map (·.1)) (i := k) (j := K.2.1.length + k') (by simp; omega) kNm).mp (by
    rw [List.getElem?_append_left (by simpa using l), List.getElem?_append_right (by simp)]
    simp [h, h', e])
  omega
abbrev Ctx : Type := Launch × State × Nat × Array Value
def Ok (C : Ctx) : Prop := ∀ d ∈ tables_1, d.before C.2.2.2 C.2.1 = true
def ArrAt (Z : State) (h : Heap) (b : Nat) (ty : FieldType) (len : Int32) (v : Int32 → Value) : Prop := ∃ cl : Cell, Arr Z h b cl ty ∧ cl.slots.size = len.toNatClampNeg ∧ ∀ j : Int32, ¬ j < 0 → j < len → cl.slots[j.toNatClampNeg]? = some (v j)
def ObjAt (Z : State) (h : Heap) (a : Nat) (q : Nat) (ob : Rec) : Prop :=
  Exa Z h a K.1 ∧ (∀ k nd, K.2.1[k]? = some nd → Fld Z h a K.1 nd.1 nd.2 (.int (ob.1 k))) ∧
  (∀ k t, K.2.2[k]? = some t → k < q → Fld Z h a K.1 t.1 (aD t.2.1) (.ref (a + 1 + k)) ∧ ArrAt Z h (a + 1 + k) t.2.1 t.2.2 (el t.2.1 ob k)) ∧
  (∀ k t, K.2.2[k]? = some t → q ≤ k → Fld Z h a K.1 t.1 (aD t.2.1) .null)
abbrev AH : Type := Nat × List (Nat × Nat × Rec)
def Rep (Z : State) (n0 : Nat) (h : Heap) (G : AH) : Prop :=
  h.size = G.1 ∧ Old Z n0 h ∧ (∀ x ∈ G.2, n0 ≤ x.1 ∧ x.1 + x.2.1 < G.1 ∧ ObjAt Z h x.1 x.2.1 x.2.2) ∧ G.2.Pairwise (fun x y => x.1 + x.2.1 < y.1 ∨ y.1 + y.2.1 < x.1)
section Facts
variable {Z : State} {h h' : Heap} {a b : Nat} {q k n0 top : Nat} {ob ob' : Rec} {nd : String × String} {t : String × FieldType × Int32} {a0 : Array Value} {sl : Nat} {v : Value} {H : List (Nat × Nat × Rec)} {G : AH}
theorem fld_fr {C n d : String} (e : h'[a]? = h[a]?) (F : Fld Z h a C n d v) : Fld Z h' a C n d v := by
  obtain ⟨cell, cf, k, i, f, h1, r⟩ := F; exact ⟨cell, cf, k, i, f, e.trans h1, r⟩
theorem exa_fr {C : String} (e : h'[a]? = h[a]?) (F : Exa Z h a C) : Exa Z h' a C := by
  obtain ⟨cell, k, h1, r⟩ := F; exact ⟨cell, k, e.trans h1, r⟩
theorem arrAt_fr {ty : FieldType} {len : Int32} {w : Int32 → Value} (e : h'[a]? = h[a]?) (F : ArrAt Z h a ty len w) : ArrAt Z h' a ty len w := by
  obtain ⟨cl, A, r⟩ := F; exact ⟨cl, ⟨e.trans A.1, A.2⟩, r⟩
theorem ObjAt.frame (e : ∀ b, a ≤ b → b ≤ a + q → h'[b]? = h[b]?) (F : ObjAt Z h a q ob) : ObjAt Z h' a q ob := by
  have e0 := e a (Nat.le_refl _) (Nat.le_add_right _ _)
  refine ⟨exa_fr e0 F.1, fun k nd hk => fld_fr e0 (F.2.1 k nd hk), fun k t hk hq => ⟨fld_fr e0 (F.2.2.1 k t hk hq).1, arrAt_fr (e _ (by omega) (by omega)) (F.2.2.1 k t hk hq).2⟩, fun k t hk hq => fld_fr e0 (F.2.2.2 k t hk hq)⟩
theorem ObjAt.ext (E : Ext h h') (F : ObjAt Z h a q ob) : ObjAt Z h' a q ob := by
  refine ⟨F.1.ext E, fun k nd hk => (F.2.1 k nd hk).ext E, fun k t hk hq => ⟨(F.2.2.1 k t hk hq).1.ext E, ?_⟩, fun k t hk hq => (F.2.2.2 k t hk hq).ext E⟩
  obtain ⟨cl, A, r⟩ := (F.2.2.1 k t hk hq).2; exact ⟨cl, A.ext E, r⟩
theorem wr_ne (W : Wr h h' a sl v) (ne : b ≠ a) : h'[b]? = h[b]? := by
  obtain ⟨cell, -, -, -, rfl⟩ := W; exact Array.getElem?_setIfInBounds_ne (Ne.symm ne)
theorem laidS (hw : ∀ d ∈ tables_1, d.before a0 Z = true) (hk : K.2.1[k]? = some nd) : Laid Z a0 K.1 K.1 nd.1 nd.2 := ((All.mem kS (List.mem_of_getElem? hk)).1).imp (hw _) (hw _)
theorem laidA (hw : ∀ d ∈ tables_1, d.before a0 Z = true) (hk : K.2.2[k]? = some t) : Laid Z a0 K.1 K.1 t.1 (aD t.2.1) := ((All.mem kA (List.mem_of_getElem? hk)).1).imp (hw _) (hw _)
theorem pfS (hk : K.2.1[k]? = some nd) : ∃ ty, parseFieldDescriptor nd.2 = some ty := by
  rcases (All.mem kS (List.mem_of_getElem? hk)).2 with e | e <;> rw [e]
  · exact ⟨.int, by decide⟩
  · exact ⟨.boolean, by decide⟩
theorem pfA (hk : K.2.2[k]? = some t) : parseFieldDescriptor (aD t.2.1) = some (.array t.2.1) := by
  rcases (All.mem kA (List.mem_of_getElem? hk)).2.1 with e | e | e <;> rw [e] <;> decide
theorem ObjAt.putI {x : Int32} (hw : ∀ d ∈ tables_1, d.before a0 Z = true) (F : ObjAt Z h a q ob) (hk : K.2.1[k]? = some nd) (W : Wr h h' a (Jvm.RoadKit.slotOf Z K.1 nd.1 nd.2) (.int x)) : ObjAt Z h' a q (sI ob k x) := by
  obtain ⟨ty, hty⟩ := pfS hk
  refine ⟨F.1.wr W, fun k' nd' hk' => ?_, fun k' t hk' hq => ⟨(F.2.2.1 k' t hk' hq).1.other W (Or.inr (Jvm.RoadKit.slot_ne (laidA hw hk') (laidS hw hk) (Ne.symm (nm_sa hk hk')) (pfA hk') hty)), ?_⟩, fun k' t hk' hq => (F.2.2.2 k' t hk' hq).other W (Or.inr (Jvm.RoadKit.slot_ne (laidA hw hk') (laidS hw hk) (Ne.symm (nm_sa hk hk')) (pfA hk') hty))⟩
  · by_cases e : k' = k
    · subst e; cases hk.symm.trans hk'
      have := (F.2.1 k' nd hk).same W
      simpa [sI] using this
    · obtain ⟨ty', hty'⟩ := pfS hk'
      have := (F.2.1 k' nd' hk').other W (Or.inr (Jvm.RoadKit.slot_ne (laidS hw hk') (laidS hw hk) (nm_ss hk' hk e) hty' hty))
      simpa [sI, e] using this
  · have := arrAt_fr (wr_ne W (by omega)) (F.2.2.1 k' t hk' hq).2
    have e : el t.2.1 (sI ob k x) k' = el t.2.1 ob k' := by funext j; unfold el; split <;> rfl
    rw [e]; exact this
theorem ObjAt.putA (F : ObjAt Z h a q ob) (hk : K.2.2[k]? = some t) (hq : k < q) {x : Value} {j : Int32} (hj : ¬ j < 0 ∧ j < t.2.2) (W : Wr h h' (a + 1 + k) j.toNatClampNeg x)
    (e1 : el t.2.1 ob' k = fun i => if i = j then x else el t.2.1 ob k i) (e2 : ∀ k' t', k' ≠ k → el t' ob' k' = el t' ob k') (e3 : ob'.1 = ob.1) : ObjAt Z h' a q ob' := by
  have u : h'[a]? = h[a]? := wr_ne W (by omega)
  refine ⟨exa_fr u F.1, fun k' nd hk' => by rw [e3]; exact fld_fr u (F.2.1 k' nd hk'), fun k' t' hk' hq' => ⟨fld_fr u (F.2.2.1 k' t' hk' hq').1, ?_⟩, fun k' t' hk' hq' => fld_fr u (F.2.2.2 k' t' hk' hq')⟩
  by_cases e : k' = k
  · subst e; cases hk.symm.trans hk'
    obtain ⟨cl, A, S, V⟩ := (F.2.2.1 k' t hk hq).2
    have inb : ¬ (j < 0 ∨ cl.slots.size ≤ j.toNatClampNeg) := inb_of S hj
    refine ⟨_, A.same W, by rw [sz_set]; exact S, fun i h0 h1 => ?_⟩
    rw [e1]
    by_cases ei : i = j
    · simp only [ei, if_true]; exact get_hit inb rfl
    · simp only [ei, if_false]; rw [get_miss hj.1 h0 ei]; exact V i h0 h1
  · rw [e2 k' _ e]; exact arrAt_fr (wr_ne W (by omega)) (F.2.2.1 k' t' hk' hq').2
theorem el_sA {ty : FieldType} (ht : ty ≠ .long) (j x : Int32) : el ty (sA ob k j x) k = fun i => if i = j then .int x else el ty ob k i := by
  funext i; cases ty <;> first | exact absurd rfl ht | (simp only [el, sA, true_and]; split <;> rfl)
theorem el_sJ (j : Int32) (x : Int64) : el .long (sJ ob k j x) k = fun i => if i = j then .long x else el .long ob k i := by
  funext i; simp only [el, sJ, true_and]; split <;> rfl
theorem el_sA' (j x : Int32) (k' : Nat) (t' : FieldType) (ne : k' ≠ k) : el t' (sA ob k j x) k' = el t' ob k' := by
  funext i; cases t' <;> simp [el, sA, ne]
theorem el_sJ' (j : Int32) (x : Int64) (k' : Nat) (t' : FieldType) (ne : k' ≠ k) : el t' (sJ ob k j x) k' = el t' ob k' := by
  funext i; cases t' <;> simp [el, sJ, ne]
theorem Rep.upd (R : Rep Z n0 h (top, (a, q, ob) :: H)) (hs : h'.size = h.size) (hO : Old Z n0 h') (e : ∀ b, (b < a ∨ a + q < b) → h'[b]? = h[b]?) (F : ObjAt Z h' a q ob') : Rep Z n0 h' (top, (a, q, ob') :: H) := by
  obtain ⟨r1, r2, r3, r4⟩ := R
  refine ⟨hs.trans r1, hO, fun x hx => ?_, ?_⟩
  · rcases List.mem_cons.mp hx with rfl | hx
    · exact ⟨(r3 _ (List.mem_cons_self ..)).1, (r3 _ (List.mem_cons_self ..)).2.1, F⟩
    · obtain ⟨p1, p2, p3⟩ := r3 x (List.mem_cons_of_mem _ hx)
      refine ⟨p1, p2, p3.frame fun b h1 h2 => e b ?_⟩
      have := (List.pairwise_cons.mp r4).1 x hx
      simp only at this
      omega
  · have := List.pairwise_cons.mp r4
    exact List.pairwise_cons.mpr ⟨fun y hy => this.1 y hy, this.2⟩
theorem Rep.objs (R : Rep Z n0 h (top, (a, q, ob) :: H)) : n0 ≤ a ∧ a + q < top ∧ ObjAt Z h a q ob := R.2.2.1 _ (List.mem_cons_self ..)
theorem Rep.putI {x : Int32} (hw : ∀ d ∈ tables_1, d.before a0 Z = true) (R : Rep Z n0 h (top, (a, q, ob) :: H)) (hk : K.2.1[k]? = some nd) (W : Wr h h' a (Jvm.RoadKit.slotOf Z K.1 nd.1 nd.2) (.int x)) : Rep Z n0 h' (top, (a, q, sI ob k x) :: H) :=
  R.upd W.size (R.2.1.wr W R.objs.1) (fun b hb => wr_ne W (by omega)) (R.objs.2.2.putI hw hk W)
theorem Rep.putA {x j : Int32} (R : Rep Z n0 h (top, (a, q, ob) :: H)) (hk : K.2.2[k]? = some t) (hq : k < q) (ht : t.2.1 ≠ .long) (hj : ¬ j < 0 ∧ j < t.2.2) (W : Wr h h' (a + 1 + k) j.toNatClampNeg (.int x)) : Rep Z n0 h' (top, (a, q, sA ob k j x) :: H) :=
  R.upd W.size (R.2.1.wr W (by have := R.objs.1; omega)) (fun b hb => wr_ne W (by omega)) (R.objs.2.2.putA hk hq hj W (el_sA ht j x) (fun k' t' ne => el_sA' j x k' t' ne) rfl)
theorem Rep.putJ {j : Int32} {x : Int64} (R : Rep Z n0 h (top, (a, q, ob) :: H)) (hk : K.2.2[k]? = some t) (hq : k < q) (ht : t.2.1 = .long) (hj : ¬ j < 0 ∧ j < t.2.2) (W : Wr h h' (a + 1 + k) j.toNatClampNeg (.long x)) : Rep Z n0 h' (top, (a, q, sJ ob k j x) :: H) :=
  R.upd W.size (R.2.1.wr W (by have := R.objs.1; omega)) (fun b hb => wr_ne W (by omega)) (R.objs.2.2.putA hk hq hj W (by rw [ht]; exact el_sJ j x) (fun k' t' ne => el_sJ' j x k' t' ne) rfl)
theorem Rep.swap {x y : Nat × Nat × Rec} (R : Rep Z n0 h (top, x :: y :: H)) : Rep Z n0 h (top, y :: x :: H) := by
  obtain ⟨r1, r2, r3, r4⟩ := R
  refine ⟨r1, r2, fun z hz => r3 z ?_, ?_⟩
  · simp only [List.mem_cons] at hz ⊢
    rcases hz with e | e | e
    · exact Or.inr (Or.inl e)
    · exact Or.inl e
    · exact Or.inr (Or.inr e)
  · simp only [List.pairwise_cons, List.mem_cons] at r4 ⊢
    obtain ⟨p1, p2, p3⟩ := r4
    refine ⟨fun z hz => ?_, fun z hz => p1 z (Or.inr hz), p3⟩
    rcases hz with rfl | hz
    · exact (p1 _ (Or.inl rfl)).symm
    · exact p2 z hz
theorem ObjAt.addA (hw : ∀ d ∈ tables_1, d.before a0 Z = true) (F : ObjAt Z h a k ob) (hk : K.2.2[k]? = some t) (A : ArrAt Z h (a + 1 + k) t.2.1 t.2.2 (el t.2.1 ob k)) (W : Wr h h' a (Jvm.RoadKit.slotOf Z K.1 t.1 (aD t.2.1)) (.ref (a + 1 + k))) : ObjAt Z h' a (k + 1) ob := by
  refine ⟨F.1.wr W, fun k' nd hk' => ?_, fun k' t' hk' hq => ?_, fun k' t' hk' hq => ?_⟩
  · obtain ⟨ty', hty'⟩ := pfS hk'
    exact (F.2.1 k' nd hk').other W (Or.inr (Jvm.RoadKit.slot_ne (laidS hw hk') (laidA hw hk) (nm_sa hk' hk) hty' (pfA hk)))
  · by_cases e : k' = k
    · subst e
      have et : t = t' := Option.some.inj (hk.symm.trans hk')
      subst et
      exact ⟨(F.2.2.2 k' t hk (Nat.le_refl _)).same W, arrAt_fr (wr_ne W (by omega)) A⟩
    · obtain ⟨f1, f2⟩ := F.2.2.1 k' t' hk' (by omega)
      exact ⟨f1.other W (Or.inr (Jvm.RoadKit.slot_ne (laidA hw hk') (laidA hw hk) (nm_aa hk' hk e) (pfA hk') (pfA hk))), arrAt_fr (wr_ne W (by omega)) f2⟩
  · exact (F.2.2.2 k' t' hk' (by omega)).other W (Or.inr (Jvm.RoadKit.slot_ne (laidA hw hk') (laidA hw hk) (nm_aa hk' hk (by omega)) (pfA hk') (pfA hk)))
theorem Rep.addA {h1 h2 : Heap} (hw : ∀ d ∈ tables_1, d.before a0 Z = true) (R : Rep Z n0 h (top, (a, k, ob) :: H)) (E : Ext h h1) (s1 : h1.size = top + 1) (htop : top = a + 1 + k) (hk : K.2.2[k]? = some t) (A : ArrAt Z h1 top t.2.1 t.2.2 (el t.2.1 ob k)) (W : Wr h1 h2 a (Jvm.RoadKit.slotOf Z K.1 t.1 (aD t.2.1)) (.ref top)) : Rep Z n0 h2 (top + 1, (a, k + 1, ob) :: H) := by
  obtain ⟨q1, q2, q3⟩ := R.objs
  have hp := List.pairwise_cons.mp R.2.2.2
  have hO : ObjAt Z h2 a (k + 1) ob := by
    subst htop
    exact (q3.ext E).addA hw hk A W
  refine ⟨W.size.trans s1, (R.2.1.ext E).wr W q1, List.forall_mem_cons.mpr ⟨⟨q1, ?_, hO⟩, fun x hx => ?_⟩, List.pairwise_cons.mpr ⟨fun y hy => ?_, hp.2⟩⟩
  · show a + (k + 1) < top + 1; omega
  · obtain ⟨p1, p2, p3⟩ := R.2.2.1 x (List.mem_cons_of_mem _ hx)
    have u1 : a + k < x.1 ∨ x.1 + x.2.1 < a := hp.1 x hx
    have u2 : x.1 + x.2.1 < top := p2
    exact ⟨p1, Nat.lt_succ_of_lt u2, (p3.ext E).frame fun b h1 h2 => wr_ne W (by omega)⟩
  · have u1 : a + k < y.1 ∨ y.1 + y.2.1 < a := hp.1 y hy
    have u2 : y.1 + y.2.1 < top := (R.2.2.1 y (List.mem_cons_of_mem _ hy)).2.1
    show a + (k + 1) < y.1 ∨ y.1 + y.2.1 < a
    omega
theorem arr_new {cA : ClassId} {ty : FieldType} {len : Int32} (A : Arr Z h b (newA cA ty len) ty) (hts : ty = .int ∨ ty = .boolean ∨ ty = .long) (hz : (∀ i, ob.2.1 k i = 0) ∧ (∀ i, ob.2.2 k i = 0)) : ArrAt Z h b ty len (el ty ob k) := by
  refine ⟨_, A, sz_new _ _ _, fun i h0 h1 => ?_⟩
  have hi : ¬ (i < 0 ∨ len.toNatClampNeg ≤ i.toNatClampNeg) := by
    have e0 : (0 : Int32).toInt = 0 := rfl
    simp only [Int32.lt_iff_toInt_lt, Int32.toNatClampNeg] at *
    omega
  rw [get_new hi]
  rcases hts with rfl | rfl | rfl
  · show some (Value.int 0) = some (Value.int (ob.2.1 k i)); rw [hz.1]
  · show some (Value.int 0) = some (Value.int (ob.2.1 k i)); rw [hz.1]
  · show some (Value.long 0) = some (Value.long (ob.2.2 k i)); rw [hz.2]
theorem Rep.start (s : State) : Rep s s.heap.size s.heap (s.heap.size, []) := ⟨rfl, Old.start s, fun x hx => (by cases hx), List.Pairwise.nil⟩
end Facts
/- bodies, decode facts, patterns of local variables -/
abbrev Bdy : Type := MethodName × ByteArray × Nat × Option FieldType × Room
def DAt (M : Bdy) (pc : Nat) (i : Instr) (n q : Nat) : Prop := decode M.2.1 pc = .ok (i, n) ∧ q = pc + n
abbrev Pat : Type := List (Option Slot)
abbrev vi (x : Int32) : Option Slot := some (.val (.int x))
abbrev vl (x : Int64) : Option Slot := some (.val (.long x))
abbrev vr (a : Nat) : Option Slot := some (.val (.ref a))
abbrev v2 : Option Slot := some .second
abbrev vn : Option Slot := none
def pget : Pat → Nat → Option Slot
  | [], _ => none
  | x :: _, 0 => x
  | _ :: l, n + 1 => pget l n
theorem pget_eq : ∀ (P : Pat) (i : Nat), pget P i = (P[i]?).join
  | [], _ => by simp [pget]
  | x :: l, 0 => by simp [pget]
  | x :: l, n + 1 => by simp [pget, pget_eq l n]
def pput : Pat → Nat → Option Slot → Pat
  | [], _, _ => []
  | _ :: l, 0, y => y :: l
  | x :: l, n + 1, y => x :: pput l n y
theorem pget_pput : ∀ (P : Pat) (i j : Nat) (y : Option Slot) (s : Slot), pget (pput P i y) j = some s → (j = i ∧ y = some s) ∨ (j ≠ i ∧ pget P j = some s)
  | [], _, _, _, _, h => by simp [pput, pget] at h
  | x :: l, 0, 0, y, s, h => Or.inl ⟨rfl, h⟩
  | x :: l, 0, j + 1, y, s, h => Or.inr ⟨by omega, h⟩
  | x :: l, i + 1, 0, y, s, h => Or.inr ⟨by omega, h⟩
  | x :: l, i + 1, j + 1, y, s, h => by
    rcases pget_pput l i j y s h with ⟨e, r⟩ | ⟨e, r⟩
    · exact Or.inl ⟨by omega, r⟩
    · exact Or.inr ⟨by omega, r⟩
/-- a two-word value whose first word is at i is forgotten -/
def pk1 (P : Pat) (i : Nat) : Pat := match pget P i with
  | some (.val (.long _)) => pput P i none
  | some (.val (.double _)) => pput P i none
  | _ => P
def pk2 (P : Pat) (i : Nat) : Pat := match pget P i with
  | some .second => pput P i none
  | _ => P
def pkp (P : Pat) : Nat → Pat
  | 0 => P
  | i + 1 => pk1 P i
def ps1 (P : Pat) (i : Nat) (v : Value) : Pat := pput (pk2 (pkp P i) (i + 1)) i (some (.val v))
def ps2 (P : Pat) (i : Nat) (v : Value) : Pat := pput (pput (pk2 (pkp P i) (i + 2)) i (some (.val v))) (i + 1) (some .second)
def WFl (L : Array Slot) : Prop := (∀ i : Nat, L[i]? = some .second → ∃ (j : Nat) (v : Value), i = j + 1 ∧ L[j]? = some (.val v) ∧ v.category = 2) ∧ (∀ (i : Nat) (v : Value), L[i]? = some (.val v) → v.category = 2 → L[i + 1]? = some .second)
def Fits (P : Pat) (L : Array Slot) : Prop := (∀ i s, pget P i = some s → L[i]? = some s) ∧ WFl L
theorem pk1_sub {P : Pat} {i j : Nat} {s : Slot} (h : pget (pk1 P i) j = some s) : pget P j = some s ∧ (j = i → ∀ w : Value, s = .val w → w.category = 1) := by
  unfold pk1 at h
  split at h
  · rcases pget_pput _ _ _ _ _ h with ⟨-, e⟩ | ⟨e, r⟩
    · cases e
    · exact ⟨r, fun q => absurd q e⟩
  · rcases pget_pput _ _ _ _ _ h with ⟨-, e⟩ | ⟨e, r⟩
    · cases e
    · exact ⟨r, fun q => absurd q e⟩
  · rename_i h1 h2
    refine ⟨h, fun q w e => ?_⟩
    subst q e
    cases w <;> first | rfl | exact absurd h (h1 _) | exact absurd h (h2 _)
theorem pk2_sub {P : Pat} {i j : Nat} {s : Slot} (h : pget (pk2 P i) j = some s) : pget P j = some s ∧ (j = i → s ≠ .second) := by
  unfold pk2 at h
  split at h
  · rcases pget_pput _ _ _ _ _ h with ⟨-, e⟩ | ⟨e, r⟩
    · cases e
    · exact ⟨r, fun q => absurd q e⟩
  · rename_i h1
    refine ⟨h, fun q e => ?_⟩
    subst q e; exact h1 h
theorem pkp_sub {P : Pat} {i j : Nat} {s : Slot} (h : pget (pkp P i) j = some s) : pget P j = some s ∧ (j + 1 = i → ∀ w : Value, s = .val w → w.category = 1) := by
  cases i with
  | zero => exact ⟨h, fun q => by omega⟩
  | succ i => obtain ⟨h1, h2⟩ := pk1_sub (show pget (pk1 P i) j = some s from h); exact ⟨h1, fun q => h2 (by omega)⟩
theorem setAt_eq {L : Array Slot} {i : Nat} {x : Slot} (hi : i < L.size) : Jvm.setAt L i x = some (L.setIfInBounds i x) := by simp [Jvm.setAt, hi]
theorem sl_second {L : Array Slot} {i : Nat} {v : Value} (ho : L[i]? = some .second) : storeLocals L i v = (Jvm.setAt L (i - 1) .unset).bind fun l => storeSelf l i v := by
  unfold storeLocals; rw [ho]; rfl
theorem sl_unset {L : Array Slot} {i : Nat} {v : Value} (ho : L[i]? = some .unset) : storeLocals L i v = storeSelf L i v := by
  unfold storeLocals; rw [ho]; rfl
theorem sl_val {L : Array Slot} {i : Nat} {v o : Value} (ho : L[i]? = some (.val o)) : storeLocals L i v = if o.category = 2 then (Jvm.setAt L (i + 1) .unset).bind fun l => storeSelf l i v else storeSelf L i v := by
  unfold storeLocals; rw [ho]; rfl
theorem ss_one {L : Array Slot} {i : Nat} {v : Value} (hi : i < L.size) (hv : ¬ v.category = 2) : storeSelf L i v = some (L.setIfInBounds i (.val v)) := by
  unfold storeSelf; rw [setAt_eq hi]; simp [hv]
theorem ss_two {L : Array Slot} {i : Nat} {v : Value} {o : Slot} (hi : i < L.size) (hv : v.category = 2) (ho : L[i + 1]? = some o) : storeSelf L i v = (match o with
    | .val old => if old.category = 2 then (Jvm.setAt (L.setIfInBounds i (.val v)) (i + 2) .unset).bind fun l => Jvm.setAt l (i + 1) .second else Jvm.setAt (L.setIfInBounds i (.val v)) (i + 1) .second
    | _ => Jvm.setAt (L.setIfInBounds i (.val v)) (i + 1) .second) := by
  have e : (L.setIfInBounds i (.val v))[i + 1]? = some o := by rw [Array.getElem?_setIfInBounds_ne (by omega)]; exact ho
  unfold storeSelf; rw [setAt_eq hi]
  show (if v.category = 2 then _ else _) = _
  rw [if_pos hv, e]
  cases o <;> rfl
theorem cat12 (v : Value) : v.category = 1 ∨ v.category = 2 := by cases v <;> first | exact Or.inl rfl | exact Or.inr rfl
/-- a one-word store: what stands elsewhere stays, but for the halves of a two-word value that it breaks -/
theorem store_one {L : Array Slot} {i : Nat} {v : Value} (hW : WFl L) (hi : i < L.size) (hv : v.category = 1) :
    ∃ L', storeLocals L i v = some L' ∧ L'.size = L.size ∧ WFl L' ∧ L'[i]? = some (.val v) ∧ ∀ j, j ≠ i → L'[j]? = L[j]? ∨ (j + 1 = i ∧ L[i]? = some .second) ∨ (j = i + 1 ∧ L[j]? = some .second) := by
  have hv2 : ¬ v.category = 2 := by omega
  cases ho : L[i]? with
  | none => rw [Array.getElem?_eq_none_iff] at ho; omega
  | some o =>
    cases o with
    | unset =>
      refine ⟨L.setIfInBounds i (.val v), ?_, by simp, ?_, by simp [hi], fun j hj => Or.inl (Array.getElem?_setIfInBounds_ne (Ne.symm hj))⟩
      · rw [sl_unset ho, ss_one hi hv2]
      · refine ⟨fun j hj => ?_, fun j w hj hw => ?_⟩
        · by_cases e : j = i
          · subst e; simp [hi] at hj
          · rw [Array.getElem?_setIfInBounds_ne (Ne.symm e)] at hj
            obtain ⟨j', w, e1, e2, e3⟩ := hW.1 j hj
            refine ⟨j', w, e1, ?_, e3⟩
            rw [Array.getElem?_setIfInBounds_ne]; exact e2
            intro q; subst q; rw [ho] at e2; cases e2
        · by_cases e : j = i
          · subst e; simp [hi] at hj; subst hj; omega
          · rw [Array.getElem?_setIfInBounds_ne (Ne.symm e)] at hj
            have := hW.2 j w hj hw
            rw [Array.getElem?_setIfInBounds_ne]; exact this
            intro q; subst q; rw [ho] at this; cases this
    | second =>
      obtain ⟨j0, w0, rfl, f2, f3⟩ := hW.1 i ho
      have hj0 : j0 < L.size := by omega
      refine ⟨(L.setIfInBounds j0 .unset).setIfInBounds (j0 + 1) (.val v), ?_, by simp, ?_, by simp [hi], fun j hj => ?_⟩
      · rw [sl_second ho, show j0 + 1 - 1 = j0 from rfl, setAt_eq hj0]; exact ss_one (by simpa using hi) hv2
      · refine ⟨fun j hj => ?_, fun j w hj hw => ?_⟩
        · by_cases e : j = j0 + 1
          · subst e; simp [hi] at hj
          · rw [Array.getElem?_setIfInBounds_ne (Ne.symm e)] at hj
            by_cases e' : j = j0
            · subst e'; simp [hj0] at hj
            · rw [Array.getElem?_setIfInBounds_ne (Ne.symm e')] at hj
              obtain ⟨j', w, e1, e2, e3⟩ := hW.1 j hj
              refine ⟨j', w, e1, ?_, e3⟩
              rw [Array.getElem?_setIfInBounds_ne, Array.getElem?_setIfInBounds_ne]
              · exact e2
              · intro q; subst q; omega
              · intro q; subst q; rw [ho] at e2; cases e2
        · by_cases e : j = j0 + 1
          · subst e; simp [hi] at hj; subst hj; omega
          · rw [Array.getElem?_setIfInBounds_ne (Ne.symm e)] at hj
            by_cases e' : j = j0
            · subst e'; simp [hj0] at hj
            · rw [Array.getElem?_setIfInBounds_ne (Ne.symm e')] at hj
              have := hW.2 j w hj hw
              rw [Array.getElem?_setIfInBounds_ne, Array.getElem?_setIfInBounds_ne]
              · exact this
              · intro q; subst q; rw [f2] at this; cases this
              · omega
      · by_cases e' : j = j0
        · exact Or.inr (Or.inl ⟨by omega, rfl⟩)
        · left; rw [Array.getElem?_setIfInBounds_ne (Ne.symm hj), Array.getElem?_setIfInBounds_ne (Ne.symm e')]
    | val old =>
      by_cases hc : old.category = 2
      · have f2 := hW.2 i old ho hc
        have hi1 : i + 1 < L.size := (Array.getElem?_eq_some_iff.mp f2).1
        refine ⟨(L.setIfInBounds (i + 1) .unset).setIfInBounds i (.val v), ?_, by simp, ?_, by simp [hi], fun j hj => ?_⟩
        · rw [sl_val ho, if_pos hc, setAt_eq hi1]; exact ss_one (by simpa using hi) hv2
        · refine ⟨fun j hj => ?_, fun j w hj hw => ?_⟩
          · by_cases e : j = i
            · subst e; simp [hi] at hj
            · rw [Array.getElem?_setIfInBounds_ne (Ne.symm e)] at hj
              by_cases e' : j = i + 1
              · subst e'; simp [hi1] at hj
              · rw [Array.getElem?_setIfInBounds_ne (Ne.symm e')] at hj
                obtain ⟨j', w, e1, e2, e3⟩ := hW.1 j hj
                refine ⟨j', w, e1, ?_, e3⟩
                rw [Array.getElem?_setIfInBounds_ne, Array.getElem?_setIfInBounds_ne]
                · exact e2
                · intro q; subst q; rw [f2] at e2; cases e2
                · omega
          · by_cases e : j = i
            · subst e; simp [hi] at hj; subst hj; omega
            · rw [Array.getElem?_setIfInBounds_ne (Ne.symm e)] at hj
              by_cases e' : j = i + 1
              · subst e'; simp [hi1] at hj
              · rw [Array.getElem?_setIfInBounds_ne (Ne.symm e')] at hj
                have := hW.2 j w hj hw
                rw [Array.getElem?_setIfInBounds_ne, Array.getElem?_setIfInBounds_ne]
                · exact this
                · omega
                · intro q; subst q; rw [ho] at this; cases this
        · by_cases e' : j = i + 1
          · subst e'; exact Or.inr (Or.inr ⟨rfl, f2⟩)
          · left; rw [Array.getElem?_setIfInBounds_ne (Ne.symm hj), Array.getElem?_setIfInBounds_ne (Ne.symm e')]
      · refine ⟨L.setIfInBounds i (.val v), ?_, by simp, ?_, by simp [hi], fun j hj => Or.inl (Array.getElem?_setIfInBounds_ne (Ne.symm hj))⟩
        · rw [sl_val ho, if_neg hc, ss_one hi hv2]
        · refine ⟨fun j hj => ?_, fun j w hj hw => ?_⟩
          · by_cases e : j = i
            · subst e; simp [hi] at hj
            · rw [Array.getElem?_setIfInBounds_ne (Ne.symm e)] at hj
              obtain ⟨j', w, e1, e2, e3⟩ := hW.1 j hj
              refine ⟨j', w, e1, ?_, e3⟩
              rw [Array.getElem?_setIfInBounds_ne]; exact e2
              intro q; subst q; rw [ho] at e2; cases e2; omega
          · by_cases e : j = i
            · subst e; simp [hi] at hj; subst hj; omega
            · rw [Array.getElem?_setIfInBounds_ne (Ne.symm e)] at hj
              have := hW.2 j w hj hw
              rw [Array.getElem?_setIfInBounds_ne]; exact this
              intro q; subst q; rw [ho] at this; cases this
theorem Fits.store1 {P : Pat} {L : Array Slot} {i : Nat} {v : Value} (h : Fits P L) (hi : i < L.size) (hv : v.category = 1) :
    ∃ L', storeLocals L i v = some L' ∧ L'.size = L.size ∧ Fits (ps1 P i v) L' := by
  obtain ⟨L', e1, e2, e3, e4, e5⟩ := store_one h.2 hi hv
  refine ⟨L', e1, e2, fun j s hj => ?_, e3⟩
  rcases pget_pput _ _ _ _ _ hj with ⟨rfl, q⟩ | ⟨ne, q⟩
  · rw [e4]; exact q
  · obtain ⟨q1, q2⟩ := pk2_sub q
    obtain ⟨q3, q4⟩ := pkp_sub q1
    have hL := h.1 j s q3
    rcases e5 j ne with r | ⟨r1, r2⟩ | ⟨r1, r2⟩
    · rw [r]; exact hL
    · obtain ⟨j', w, z1, z2, z3⟩ := h.2.1 i r2
      have : j' = j := by omega
      subst this
      rw [hL] at z2; cases z2
      have := q4 r1 w rfl; omega
    · rw [hL] at r2; cases r2
      exact absurd rfl (q2 r1)
theorem st_ph1 {L : Array Slot} {i : Nat} {v : Value} (hW : WFl L) (hi : i + 1 < L.size) :
    ∃ A : Array Slot, storeLocals L i v = storeSelf A i v ∧ A.size = L.size ∧ (∀ j, j ≠ i → j ≠ i + 1 → A[j]? = L[j]? ∨ (j + 1 = i ∧ L[i]? = some .second ∧ A[j]? = some .unset)) ∧ (A[i + 1]? = L[i + 1]? ∨ (A[i + 1]? = some .unset ∧ L[i + 1]? = some .second)) ∧ (L[i]? = some .second → ∀ j, j + 1 = i → A[j]? = some .unset) := by
  have hi0 : i < L.size := by omega
  cases ho : L[i]? with
  | none => rw [Array.getElem?_eq_none_iff] at ho; omega
  | some o =>
    cases o with
    | unset => exact ⟨L, sl_unset ho, rfl, fun j _ _ => Or.inl rfl, Or.inl rfl, fun q => by cases q⟩
    | second =>
      obtain ⟨j0, w0, rfl, f2, f3⟩ := hW.1 i ho
      have hj0 : j0 < L.size := by omega
      refine ⟨L.setIfInBounds j0 .unset, by rw [sl_second ho, show j0 + 1 - 1 = j0 from rfl, setAt_eq hj0]; rfl, by simp, fun j h1 h2 => ?_, Or.inl (Array.getElem?_setIfInBounds_ne (by omega)), fun _ j hj => ?_⟩
      · by_cases e : j = j0
        · subst e; exact Or.inr ⟨rfl, rfl, by simp [hj0]⟩
        · exact Or.inl (Array.getElem?_setIfInBounds_ne (Ne.symm e))
      · have : j = j0 := by omega
        subst this; simp [hj0]
    | val old =>
      by_cases hc : old.category = 2
      · refine ⟨L.setIfInBounds (i + 1) .unset, by rw [sl_val ho, if_pos hc, setAt_eq hi]; rfl, by simp, fun j h1 h2 => Or.inl (Array.getElem?_setIfInBounds_ne (Ne.symm h2)), Or.inr ⟨by simp [hi], hW.2 i old ho hc⟩, fun q => by cases q⟩
      · exact ⟨L, by rw [sl_val ho, if_neg hc], rfl, fun j _ _ => Or.inl rfl, Or.inl rfl, fun q => by cases q⟩
theorem st_ph2 {A : Array Slot} {i : Nat} {v : Value} (hi : i + 1 < A.size) (hv : v.category = 2) (hn : ∀ w : Value, A[i + 1]? = some (.val w) → w.category = 2 → i + 2 < A.size) :
    ∃ L', storeSelf A i v = some L' ∧ L'.size = A.size ∧ L'[i]? = some (.val v) ∧ L'[i + 1]? = some .second ∧ (∀ j, j ≠ i → j ≠ i + 1 → L'[j]? = A[j]? ∨ (j = i + 2 ∧ L'[j]? = some .unset ∧ ∃ w : Value, A[i + 1]? = some (.val w) ∧ w.category = 2)) ∧ ((∃ w : Value, A[i + 1]? = some (.val w) ∧ w.category = 2) → L'[i + 2]? = some .unset) := by
  have hi0 : i < A.size := by omega
  have eB : (A.setIfInBounds i (.val v))[i + 1]? = A[i + 1]? := Array.getElem?_setIfInBounds_ne (by omega)
  have plain : (∀ w : Value, A[i + 1]? = some (.val w) → w.category ≠ 2) → storeSelf A i v = some ((A.setIfInBounds i (.val v)).setIfInBounds (i + 1) .second) := fun hq => by
    cases ho : A[i + 1]? with
    | none => rw [Array.getElem?_eq_none_iff] at ho; omega
    | some o => cases o with
      | unset => rw [ss_two hi0 hv ho]; exact setAt_eq (by simpa using hi)
      | second => rw [ss_two hi0 hv ho]; exact setAt_eq (by simpa using hi)
      | val w => have := hq w ho; rw [ss_two hi0 hv ho]; simp only [if_neg this]; exact setAt_eq (by simpa using hi)
  by_cases hw : ∃ w : Value, A[i + 1]? = some (.val w) ∧ w.category = 2
  · obtain ⟨w, h1, h2⟩ := hw
    have h3 := hn w h1 h2
    refine ⟨((A.setIfInBounds i (.val v)).setIfInBounds (i + 2) .unset).setIfInBounds (i + 1) .second, by rw [ss_two hi0 hv h1]; simp only [if_pos h2]; rw [setAt_eq (by simpa using h3)]; exact setAt_eq (by simpa using hi), by simp, ?_, by simp [hi], fun j a b => ?_, fun _ => ?_⟩
    · rw [Array.getElem?_setIfInBounds_ne (by omega), Array.getElem?_setIfInBounds_ne (by omega)]; simp [hi0]
    · rw [Array.getElem?_setIfInBounds_ne (by omega)]
      by_cases e : j = i + 2
      · subst e; exact Or.inr ⟨rfl, by simp [h3], w, h1, h2⟩
      · left; rw [Array.getElem?_setIfInBounds_ne (by omega), Array.getElem?_setIfInBounds_ne (by omega)]
    · rw [Array.getElem?_setIfInBounds_ne (by omega)]; simp [h3]
  · refine ⟨_, plain fun w h1 h2 => hw ⟨w, h1, h2⟩, by simp, ?_, by simp [hi], fun j a b => Or.inl ?_, fun q => absurd q hw⟩
    · rw [Array.getElem?_setIfInBounds_ne (by omega)]; simp [hi0]
    · rw [Array.getElem?_setIfInBounds_ne (by omega), Array.getElem?_setIfInBounds_ne (by omega)]
theorem store_two {L : Array Slot} {i : Nat} {v : Value} (hW : WFl L) (hi : i + 1 < L.size) (hv : v.category = 2) :
    ∃ L', storeLocals L i v = some L' ∧ L'.size = L.size ∧ WFl L' ∧ L'[i]? = some (.val v) ∧ L'[i + 1]? = some .second ∧ ∀ j, j ≠ i → j ≠ i + 1 → L'[j]? = L[j]? ∨ (j + 1 = i ∧ L[i]? = some .second) ∨ (j = i + 2 ∧ L[j]? = some .second) := by
  obtain ⟨A, a1, a2, a3, a4, a5⟩ := st_ph1 (v := v) hW hi
  have a6 : ∀ w : Value, A[i + 1]? = some (.val w) → w.category = 2 → L[i + 2]? = some .second := fun w h1 h2 => by
    rcases a4 with e | ⟨e, -⟩
    · rw [e] at h1; exact hW.2 _ _ h1 h2
    · rw [e] at h1; cases h1
  obtain ⟨L', b1, b2, b3, b4, b5, b6⟩ := st_ph2 (A := A) (i := i) (v := v) (by omega) hv (fun w h1 h2 => by have := (Array.getElem?_eq_some_iff.mp (a6 w h1 h2)).1; omega)
  have c : ∀ j, j ≠ i → j ≠ i + 1 → L'[j]? = L[j]? ∨ (j + 1 = i ∧ L[i]? = some .second ∧ L'[j]? = some .unset) ∨ (j = i + 2 ∧ L[j]? = some .second ∧ L'[j]? = some .unset) := fun j h1 h2 => by
    rcases b5 j h1 h2 with e | ⟨e1, e2, w, e3, e4⟩
    · rcases a3 j h1 h2 with r | ⟨r1, r2, r3⟩
      · exact Or.inl (e.trans r)
      · exact Or.inr (Or.inl ⟨r1, r2, e.trans r3⟩)
    · subst e1; exact Or.inr (Or.inr ⟨rfl, a6 w e3 e4, e2⟩)
  have cs : L[i]? = some .second → ∀ j, j + 1 = i → L'[j]? = some .unset := fun q j hj => by
    rcases b5 j (by omega) (by omega) with e | ⟨e1, -⟩
    · exact e.trans (a5 q j hj)
    · omega
  have c2 : L[i + 2]? = some .second → L'[i + 2]? = some .unset := fun q => by
    obtain ⟨j', w, z1, z2, z3⟩ := hW.1 _ q
    have : j' = i + 1 := by omega
    subst this
    rcases a4 with e | ⟨-, e⟩
    · exact b6 ⟨w, e.trans z2, z3⟩
    · rw [e] at z2; cases z2
  refine ⟨L', a1.trans b1, b2.trans a2, ⟨fun j hj => ?_, fun j w hj hw => ?_⟩, b3, b4, fun j h1 h2 => ?_⟩
  · by_cases e0 : j = i
    · subst e0; rw [b3] at hj; cases hj
    by_cases e1 : j = i + 1
    · exact ⟨i, v, e1, b3, hv⟩
    rcases c j e0 e1 with r | ⟨-, -, r⟩ | ⟨-, -, r⟩
    · rw [r] at hj
      obtain ⟨j', w, z1, z2, z3⟩ := hW.1 j hj
      refine ⟨j', w, z1, ?_, z3⟩
      have n0 : j' ≠ i := by omega
      by_cases n1 : j' = i + 1
      · have : j = i + 2 := by omega
        subst this
        rw [c2 hj] at r; rw [hj] at r; cases r
      rcases c j' n0 n1 with u | ⟨u, -, -⟩ | ⟨-, u, -⟩
      · exact u.trans z2
      · omega
      · rw [z2] at u; cases u
    · rw [r] at hj; cases hj
    · rw [r] at hj; cases hj
  · by_cases e0 : j = i
    · subst e0; exact b4
    by_cases e1 : j = i + 1
    · subst e1; rw [b4] at hj; cases hj
    rcases c j e0 e1 with r | ⟨-, -, r⟩ | ⟨-, -, r⟩
    · have hj' := hj
      rw [r] at hj
      have z := hW.2 j w hj hw
      by_cases n0 : j + 1 = i
      · subst n0; rw [cs z j rfl] at hj'; cases hj'
      by_cases n1 : j + 1 = i + 1
      · omega
      rcases c (j + 1) n0 n1 with u | ⟨u1, u2, -⟩ | ⟨u, -, -⟩
      · exact u.trans z
      · obtain ⟨j', w', y1, y2, y3⟩ := hW.1 i u2
        have : j' = j + 1 := by omega
        subst this; rw [z] at y2; cases y2
      · omega
    · rw [r] at hj; cases hj
    · rw [r] at hj; cases hj
  · rcases c j h1 h2 with r | ⟨r1, r2, -⟩ | ⟨r1, r2, -⟩
    · exact Or.inl r
    · exact Or.inr (Or.inl ⟨r1, r2⟩)
    · exact Or.inr (Or.inr ⟨r1, r2⟩)
theorem Fits.store2 {P : Pat} {L : Array Slot} {i : Nat} {v : Value} (h : Fits P L) (hi : i + 1 < L.size) (hv : v.category = 2) :
    ∃ L', storeLocals L i v = some L' ∧ L'.size = L.size ∧ Fits (ps2 P i v) L' := by
  obtain ⟨L', e1, e2, e3, e4, e4', e5⟩ := store_two h.2 hi hv
  refine ⟨L', e1, e2, fun j s hj => ?_, e3⟩
  rcases pget_pput _ _ _ _ _ hj with ⟨rfl, q⟩ | ⟨ne, q⟩
  · rw [e4']; exact q
  rcases pget_pput _ _ _ _ _ q with ⟨rfl, q'⟩ | ⟨ne', q'⟩
  · rw [e4]; exact q'
  obtain ⟨q1, q2⟩ := pk2_sub q'
  obtain ⟨q3, q4⟩ := pkp_sub q1
  have hL := h.1 j s q3
  rcases e5 j ne' ne with r | ⟨r1, r2⟩ | ⟨r1, r2⟩
  · rw [r]; exact hL
  · obtain ⟨j', w, z1, z2, z3⟩ := h.2.1 i r2
    have : j' = j := by omega
    subst this
    rw [hL] at z2; cases z2
    have := q4 r1 w rfl; omega
  · rw [hL] at r2; cases r2
    exact absurd rfl (q2 r1)
/- what a body does from a place on -/
def Runs (C : Ctx) (M : Bdy) (k n pc : Nat) (P : Pat) (S : List Value) (G : AH) (Q : Option Value → AH → Prop) : Prop :=
  Ok C → ∀ (p : Program) (e : Env) (s : State) (m : MethodId) (args : Array Value) (below : List Frame) (meth : Method) (c : Code) (T : State) (locs : List Loc) (L : Array Slot),
    p.tables.exec = Jvm.exec → c.code = M.2.1 → c.maxLocals = M.2.2.1 → meth.sig.returnType = M.2.2.2.1 → meth.name = M.1.name → s.vm.findClass M.1.cls = some m.cls → C.2.1.Warmed39 s.vm →
    Fits P L → L.size = M.2.2.1 → Stand p C.1 e M.2.2.2.2 s m args below meth c T locs k n → Rep C.2.1 C.2.2.1 T.heap G → Fr C.2.2.1 locs →
    ∃ (T' : State) (locs' : List Loc) (k' n' : Nat) (r : Option Value) (G' : AH), Stand p C.1 e M.2.2.2.2 s m args below meth c T' locs' k' n' ∧ k' ≤ M.2.2.2.2.cells ∧ n' ≤ M.2.2.2.2.slots ∧ Rep C.2.1 C.2.2.1 T'.heap G' ∧ Fr C.2.2.1 locs' ∧ Q r G' ∧
      (M.2.2.2.1 = none → r = none) ∧
      ∀ fs : List Frame, (∀ (f : JFrame) (acts : List Action), f.method = m → f.locked = none → f.entered = [] → (doReturn e (T'.setTop f) acts r).1 = T'.setFrames fs) → Steps p.tables e below (T.setTop (mkF m pc L S)) (T'.setFrames fs)
section Rules
variable {C : Ctx} {M : Bdy} {k n pc q : Nat} {P P' : Pat} {S S' : List Value} {G : AH} {Q : Option Value → AH → Prop}
/-- a step that leaves the heap alone -/
theorem Runs.pure {i : Instr} {len : Nat} (d : DAt M pc i len q) {pc' : Nat}
    (st : ∀ (p : Program) (e : Env) (s : State) (m : MethodId) (args : Array Value) (below : List Frame) (meth : Method) (c : Code) (T : State) (locs : List Loc) (L : Array Slot), Ok C → p.tables.exec = Jvm.exec → s.vm.findClass M.1.cls = some m.cls → C.2.1.Warmed39 s.vm → decode c.code pc = .ok (i, len) → Fits P L → L.size = M.2.2.1 → Rep C.2.1 C.2.2.1 T.heap G →
      Stand p C.1 e M.2.2.2.2 s m args below meth c T locs k n → ∃ L', Fits P' L' ∧ L'.size = M.2.2.1 ∧ ∀ t, Steps p.tables e below (T.setTop (mkF m pc' L' S')) t → Steps p.tables e below (T.setTop (mkF m pc L S)) t)
    (h : Runs C M k n pc' P' S' G Q) : Runs C M k n pc P S G Q := by
  intro hw p e s m args below meth c T locs L hx hby hml hret hnm hown hZ hP hsz X hR hF
  obtain ⟨L', f1, f2, f3⟩ := st p e s m args below meth c T locs L hw hx hown hZ (hb hby d.1) hP hsz hR X
  obtain ⟨T', locs', k', n', r, G', g1, g2, g3, g4, g5, g6, g7, g8⟩ := h hw p e s m args below meth c T locs L' hx hby hml hret hnm hown hZ f1 f2 X hR hF
  exact ⟨T', locs', k', n', r, G', g1, g2, g3, g4, g5, g6, g7, fun fs hr => f3 _ (g8 fs hr)⟩
/-- a step that keeps the locals and what the heap says -/
theorem Runs.stk {i : Instr} {len : Nat} (d : DAt M pc i len q)
    (st : ∀ (p : Program) (e : Env) (s : State) (m : MethodId) (args : Array Value) (below : List Frame) (meth : Method) (c : Code) (T : State) (locs : List Loc) (L : Array Slot), p.tables.exec = Jvm.exec → decode c.code pc = .ok (i, len) → Fits P L →
      Stand p C.1 e M.2.2.2.2 s m args below meth c T locs k n → ∀ t, Steps p.tables e below (T.setTop (mkF m (pc + len) L S')) t → Steps p.tables e below (T.setTop (mkF m pc L S)) t)
    (h : Runs C M k n q P S' G Q) : Runs C M k n pc P S G Q := by
  have hq := d.2
  subst hq
  exact Runs.pure d (fun p e s m args below meth c T locs L _ hx _ _ hd hP hsz _ X => ⟨L, hP, hsz, st p e s m args below meth c T locs L hx hd hP X⟩) h
theorem Runs.iloadN {j : Fin 4} {v : Int32} (d : DAt M pc (.iload_n j) 1 q) (hl : pget P j.val = vi v) (h : Runs C M k n q P (.int v :: S) G Q) : Runs C M k n pc P S G Q :=
  Runs.stk d (fun p e s m args below meth c T locs L hx hd hP X t r => XS.iloadN (g := mkF m pc L S) X.here hx rfl hd (hP.1 _ _ hl) r) h
theorem Runs.iload {j : Nat} {v : Int32} (d : DAt M pc (.iload j) 2 q) (hl : pget P j = vi v) (h : Runs C M k n q P (.int v :: S) G Q) : Runs C M k n pc P S G Q :=
  Runs.stk d (fun p e s m args below meth c T locs L hx hd hP X t r => XS.iload (g := mkF m pc L S) X.here hx rfl hd (hP.1 _ _ hl) r) h
theorem Runs.lloadN {j : Fin 4} {v : Int64} (d : DAt M pc (.lload_n j) 1 q) (hl : pget P j.val = vl v) (h : Runs C M k n q P (.long v :: S) G Q) : Runs C M k n pc P S G Q :=
  Runs.stk d (fun p e s m args below meth c T locs L hx hd hP X t r => XS.lloadN (g := mkF m pc L S) X.here hx rfl hd (hP.1 _ _ hl) r) h
theorem Runs.lload {j : Nat} {v : Int64} (d : DAt M pc (.lload j) 2 q) (hl : pget P j = vl v) (h : Runs C M k n q P (.long v :: S) G Q) : Runs C M k n pc P S G Q :=
  Runs.stk d (fun p e s m args below meth c T locs L hx hd hP X t r => XS.lload (g := mkF m pc L S) X.here hx rfl hd (hP.1 _ _ hl) r) h
theorem Runs.aloadN {j : Fin 4} {v : Nat} (d : DAt M pc (.aload_n j) 1 q) (hl : pget P j.val = vr v) (h : Runs C M k n q P (.ref v :: S) G Q) : Runs C M k n pc P S G Q :=
  Runs.stk d (fun p e s m args below meth c T locs L hx hd hP X t r => XS.aloadN (g := mkF m pc L S) X.here hx rfl hd (hP.1 _ _ hl) rfl r) h
theorem Runs.aload {j : Nat} {v : Nat} (d : DAt M pc (.aload j) 2 q) (hl : pget P j = vr v) (h : Runs C M k n q P (.ref v :: S) G Q) : Runs C M k n pc P S G Q :=
  Runs.stk d (fun p e s m args below meth c T locs L hx hd hP X t r => XS.aload (g := mkF m pc L S) X.here hx rfl hd (hP.1 _ _ hl) rfl r) h
theorem Runs.iconst {i : Int} {v : Int32} (d : DAt M pc (.iconst i) 1 q) (hv : Int32.ofInt i = v) (h : Runs C M k n q P (.int v :: S) G Q) : Runs C M k n pc P S G Q :=
  Runs.stk d (fun p e s m args below meth c T locs L hx hd hP X t r => XS.iconst (g := mkF m pc L S) X.here hx rfl hd (by rw [hv]; exact r)) h
theorem Runs.bipush {i : Int} {v : Int32} (d : DAt M pc (.bipush i) 2 q) (hv : (Int8.ofInt i).toInt32 = v) (h : Runs C M k n q P (.int v :: S) G Q) : Runs C M k n pc P S G Q :=
  Runs.stk d (fun p e s m args below meth c T locs L hx hd hP X t r => XS.bipush (g := mkF m pc L S) X.here hx rfl hd (by rw [hv]; exact r)) h
theorem Runs.sipush {i : Int} {v : Int32} (d : DAt M pc (.sipush i) 3 q) (hv : (Int16.ofInt i).toInt32 = v) (h : Runs C M k n q P (.int v :: S) G Q) : Runs C M k n pc P S G Q :=
  Runs.stk d (fun p e s m args below meth c T locs L hx hd hP X t r => XS.sipush (g := mkF m pc L S) X.here hx rfl hd (by rw [hv]; exact r)) h
theorem Runs.lconst {i : Fin 2} {v : Int64} (d : DAt M pc (.lconst i) 1 q) (hv : Int64.ofNat i = v) (h : Runs C M k n q P (.long v :: S) G Q) : Runs C M k n pc P S G Q :=
  Runs.stk d (fun p e s m args below meth c T locs L hx hd hP X t r => Jvm.Free.XT.lconstV (g := mkF m pc L S) X.here hx rfl v hd hv r) h
theorem Runs.ldc {i : Nat} {v : Int32} (d : DAt M pc (.ldc i) 2 q) (w : Jvm.Cond.constant M.1.cls i v ∈ tables_1) (h : Runs C M k n q P (.int v :: S) G Q) : Runs C M k n pc P S G Q := by
  have hq := d.2
  subst hq
  exact Runs.pure d (fun p e s m args below meth c T locs L hw hx hown hZ hd hP hsz _ X => ⟨L, hP, hsz, fun t r => X.ldcInt hx hown (mvT hZ (hw _ w)) (g := mkF m pc L S) rfl hd t r⟩) h
theorem Runs.ldc2 {i : Nat} {v : Int64} (d : DAt M pc (.ldc2_w i) 3 q) (w : Jvm.Cond.constantLong M.1.cls i v ∈ tables_1) (h : Runs C M k n q P (.long v :: S) G Q) : Runs C M k n pc P S G Q := by
  have hq := d.2
  subst hq
  exact Runs.pure d (fun p e s m args below meth c T locs L hw hx hown hZ hd hP hsz _ X => ⟨L, hP, hsz, fun t r => X.ldc2Long hx hown (mvT hZ (hw _ w)) (g := mkF m pc L S) rfl hd t r⟩) h
theorem Runs.iadd {x y : Int32} (d : DAt M pc .iadd 1 q) (h : Runs C M k n q P (.int (x + y) :: S) G Q) : Runs C M k n pc P (.int y :: .int x :: S) G Q :=
  Runs.stk d (fun p e s m args below meth c T locs L hx hd hP X t r => XS.iadd (g := mkF m pc L (.int y :: .int x :: S)) X.here hx rfl hd rfl r) h
theorem Runs.isub {x y : Int32} (d : DAt M pc .isub 1 q) (h : Runs C M k n q P (.int (x - y) :: S) G Q) : Runs C M k n pc P (.int y :: .int x :: S) G Q :=
  Runs.stk d (fun p e s m args below meth c T locs L hx hd hP X t r => XS.isub (g := mkF m pc L (.int y :: .int x :: S)) X.here hx rfl hd rfl r) h
theorem Runs.imul {x y : Int32} (d : DAt M pc .imul 1 q) (h : Runs C M k n q P (.int (x * y) :: S) G Q) : Runs C M k n pc P (.int y :: .int x :: S) G Q :=
  Runs.stk d (fun p e s m args below meth c T locs L hx hd hP X t r => XS.imul (g := mkF m pc L (.int y :: .int x :: S)) X.here hx rfl hd rfl r) h
theorem Runs.iand {x y : Int32} (d : DAt M pc .iand 1 q) (h : Runs C M k n q P (.int (x &&& y) :: S) G Q) : Runs C M k n pc P (.int y :: .int x :: S) G Q :=
  Runs.stk d (fun p e s m args below meth c T locs L hx hd hP X t r => XS.iand (g := mkF m pc L (.int y :: .int x :: S)) X.here hx rfl hd rfl r) h
theorem Runs.ior {x y : Int32} (d : DAt M pc .ior 1 q) (h : Runs C M k n q P (.int (x ||| y) :: S) G Q) : Runs C M k n pc P (.int y :: .int x :: S) G Q :=
  Runs.stk d (fun p e s m args below meth c T locs L hx hd hP X t r => XS.ior (g := mkF m pc L (.int y :: .int x :: S)) X.here hx rfl hd rfl r) h
theorem Runs.ixor {x y : Int32} (d : DAt M pc .ixor 1 q) (h : Runs C M k n q P (.int (x ^^^ y) :: S) G Q) : Runs C M k n pc P (.int y :: .int x :: S) G Q :=
  Runs.stk d (fun p e s m args below meth c T locs L hx hd hP X t r => XS.ixor (g := mkF m pc L (.int y :: .int x :: S)) X.here hx rfl hd rfl r) h
theorem Runs.ladd {x y : Int64} (d : DAt M pc .ladd 1 q) (h : Runs C M k n q P (.long (x + y) :: S) G Q) : Runs C M k n pc P (.long y :: .long x :: S) G Q :=
  Runs.stk d (fun p e s m args below meth c T locs L hx hd hP X t r => XS.ladd (g := mkF m pc L (.long y :: .long x :: S)) X.here hx rfl hd rfl r) h
theorem Runs.lsub {x y : Int64} (d : DAt M pc .lsub 1 q) (h : Runs C M k n q P (.long (x - y) :: S) G Q) : Runs C M k n pc P (.long y :: .long x :: S) G Q :=
  Runs.stk d (fun p e s m args below meth c T locs L hx hd hP X t r => XS.lsub (g := mkF m pc L (.long y :: .long x :: S)) X.here hx rfl hd rfl r) h
theorem Runs.lmul {x y : Int64} (d : DAt M pc .lmul 1 q) (h : Runs C M k n q P (.long (x * y) :: S) G Q) : Runs C M k n pc P (.long y :: .long x :: S) G Q :=
  Runs.stk d (fun p e s m args below meth c T locs L hx hd hP X t r => XS.lmul (g := mkF m pc L (.long y :: .long x :: S)) X.here hx rfl hd rfl r) h
theorem Runs.land {x y : Int64} (d : DAt M pc .land 1 q) (h : Runs C M k n q P (.long (x &&& y) :: S) G Q) : Runs C M k n pc P (.long y :: .long x :: S) G Q :=
  Runs.stk d (fun p e s m args below meth c T locs L hx hd hP X t r => XS.land (g := mkF m pc L (.long y :: .long x :: S)) X.here hx rfl hd rfl r) h
theorem Runs.lor {x y : Int64} (d : DAt M pc .lor 1 q) (h : Runs C M k n q P (.long (x ||| y) :: S) G Q) : Runs C M k n pc P (.long y :: .long x :: S) G Q :=
  Runs.stk d (fun p e s m args below meth c T locs L hx hd hP X t r => XS.lor (g := mkF m pc L (.long y :: .long x :: S)) X.here hx rfl hd rfl r) h
theorem Runs.lxor {x y : Int64} (d : DAt M pc .lxor 1 q) (h : Runs C M k n q P (.long (x ^^^ y) :: S) G Q) : Runs C M k n pc P (.long y :: .long x :: S) G Q :=
  Runs.stk d (fun p e s m args below meth c T locs L hx hd hP X t r => XS.lxor (g := mkF m pc L (.long y :: .long x :: S)) X.here hx rfl hd rfl r) h
theorem Runs.ishl {x : Int32} {y : Int32} (d : DAt M pc .ishl 1 q) (h : Runs C M k n q P (.int (x <<< (y &&& 31)) :: S) G Q) : Runs C M k n pc P (.int y :: .int x :: S) G Q :=
  Runs.stk d (fun p e s m args below meth c T locs L hx hd hP X t r => XS.ishl (g := mkF m pc L (.int y :: .int x :: S)) X.here hx rfl hd rfl r) h
theorem Runs.ishr {x : Int32} {y : Int32} (d : DAt M pc .ishr 1 q) (h : Runs C M k n q P (.int (x >>> (y &&& 31)) :: S) G Q) : Runs C M k n pc P (.int y :: .int x :: S) G Q :=
  Runs.stk d (fun p e s m args below meth c T locs L hx hd hP X t r => XS.ishr (g := mkF m pc L (.int y :: .int x :: S)) X.here hx rfl hd rfl r) h
theorem Runs.iushr {x : Int32} {y : Int32} (d : DAt M pc .iushr 1 q) (h : Runs C M k n q P (.int ((x.toUInt32 >>> (y &&& 31).toUInt32).toInt32) :: S) G Q) : Runs C M k n pc P (.int y :: .int x :: S) G Q :=
  Runs.stk d (fun p e s m args below meth c T locs L hx hd hP X t r => XS.iushr (g := mkF m pc L (.int y :: .int x :: S)) X.here hx rfl hd rfl r) h
theorem Runs.lshl {x : Int64} {y : Int32} (d : DAt M pc .lshl 1 q) (h : Runs C M k n q P (.long (x <<< (y &&& 0x3f).toInt64) :: S) G Q) : Runs C M k n pc P (.int y :: .long x :: S) G Q :=
  Runs.stk d (fun p e s m args below meth c T locs L hx hd hP X t r => XS.lshl (g := mkF m pc L (.int y :: .long x :: S)) X.here hx rfl hd rfl r) h
theorem Runs.lshr {x : Int64} {y : Int32} (d : DAt M pc .lshr 1 q) (h : Runs C M k n q P (.long (x >>> (y &&& 0x3f).toInt64) :: S) G Q) : Runs C M k n pc P (.int y :: .long x :: S) G Q :=
  Runs.stk d (fun p e s m args below meth c T locs L hx hd hP X t r => XS.lshr (g := mkF m pc L (.int y :: .long x :: S)) X.here hx rfl hd rfl r) h
theorem Runs.lushr {x : Int64} {y : Int32} (d : DAt M pc .lushr 1 q) (h : Runs C M k n q P (.long ((x.toUInt64 >>> (y &&& 0x3f).toInt64.toUInt64).toInt64) :: S) G Q) : Runs C M k n pc P (.int y :: .long x :: S) G Q :=
  Runs.stk d (fun p e s m args below meth c T locs L hx hd hP X t r => XS.lushr (g := mkF m pc L (.int y :: .long x :: S)) X.here hx rfl hd rfl r) h
theorem Runs.ineg {x : Int32} (d : DAt M pc .ineg 1 q) (h : Runs C M k n q P (.int (-x) :: S) G Q) : Runs C M k n pc P (.int x :: S) G Q :=
  Runs.stk d (fun p e s m args below meth c T locs L hx hd hP X t r => XS.ineg (g := mkF m pc L (.int x :: S)) X.here hx rfl hd rfl r) h
theorem Runs.lneg {x : Int64} (d : DAt M pc .lneg 1 q) (h : Runs C M k n q P (.long (-x) :: S) G Q) : Runs C M k n pc P (.long x :: S) G Q :=
  Runs.stk d (fun p e s m args below meth c T locs L hx hd hP X t r => XS.lneg (g := mkF m pc L (.long x :: S)) X.here hx rfl hd rfl r) h
theorem Runs.i2l {x : Int32} (d : DAt M pc .i2l 1 q) (h : Runs C M k n q P (.long x.toInt64 :: S) G Q) : Runs C M k n pc P (.int x :: S) G Q :=
  Runs.stk d (fun p e s m args below meth c T locs L hx hd hP X t r => XS.i2l (g := mkF m pc L (.int x :: S)) X.here hx rfl hd rfl r) h
theorem Runs.l2i {x : Int64} (d : DAt M pc .l2i 1 q) (h : Runs C M k n q P (.int x.toInt32 :: S) G Q) : Runs C M k n pc P (.long x :: S) G Q :=
  Runs.stk d (fun p e s m args below meth c T locs L hx hd hP X t r => XS.l2i (g := mkF m pc L (.long x :: S)) X.here hx rfl hd rfl r) h
theorem Runs.lcmp {x y : Int64} (d : DAt M pc .lcmp 1 q) (h : Runs C M k n q P (.int (lcmpW x y) :: S) G Q) : Runs C M k n pc P (.long y :: .long x :: S) G Q :=
  Runs.stk d (fun p e s m args below meth c T locs L hx hd hP X t r => XS.lcmp (g := mkF m pc L (.long y :: .long x :: S)) X.here hx rfl hd rfl r) h
theorem Runs.idiv {x y : Int32} (d : DAt M pc .idiv 1 q) (hy : y ≠ 0) (h : Runs C M k n q P (.int (x / y) :: S) G Q) : Runs C M k n pc P (.int y :: .int x :: S) G Q :=
  Runs.stk d (fun p e s m args below meth c T locs L hx hd hP X t r => XS.idiv (g := mkF m pc L (.int y :: .int x :: S)) X.here hx rfl hd rfl hy r) h
theorem Runs.irem {x y : Int32} (d : DAt M pc .irem 1 q) (hy : y ≠ 0) (h : Runs C M k n q P (.int (x % y) :: S) G Q) : Runs C M k n pc P (.int y :: .int x :: S) G Q :=
  Runs.stk d (fun p e s m args below meth c T locs L hx hd hP X t r => iremM (g := mkF m pc L (.int y :: .int x :: S)) X hx rfl hd rfl hy r) h
theorem Runs.dup {x : Value} (d : DAt M pc .dup 1 q) (hc : x.category = 1) (h : Runs C M k n q P (x :: x :: S) G Q) : Runs C M k n pc P (x :: S) G Q :=
  Runs.stk d (fun p e s m args below meth c T locs L hx hd hP X t r => XS.dup (g := mkF m pc L (x :: S)) X.here hx rfl hd rfl hc r) h
theorem Runs.dup2 {x y : Value} (d : DAt M pc .dup2 1 q) (hc : x.category = 1) (hc' : y.category = 1) (h : Runs C M k n q P (x :: y :: x :: y :: S) G Q) : Runs C M k n pc P (x :: y :: S) G Q :=
  Runs.stk d (fun p e s m args below meth c T locs L hx hd hP X t r => Jvm.Free.XT.dup2 (g := mkF m pc L (x :: y :: S)) X.here hx rfl hd rfl hc hc' r) h
theorem Runs.pop {x : Value} (d : DAt M pc .pop 1 q) (hc : x.category = 1) (h : Runs C M k n q P S G Q) : Runs C M k n pc P (x :: S) G Q :=
  Runs.stk d (fun p e s m args below meth c T locs L hx hd hP X t r => XS.pop (g := mkF m pc L (x :: S)) X.here hx rfl hd rfl hc r) h
theorem Runs.goto {o : Int} {pc' : Nat} (d : DAt M pc (.goto o) 3 q) (ho : 0 ≤ (pc : Int) + o ∧ ((pc : Int) + o).toNat = pc') (h : Runs C M k n pc' P S G Q) : Runs C M k n pc P S G Q :=
  Runs.pure d (fun p e s m args below meth c T locs L hw hx hown hZ hd hP hsz _ X => ⟨L, hP, hsz, fun t r => XS.goto (g := mkF m pc L S) X.here hx rfl (pc0 := pc) rfl hd ho.1 ho.2 r⟩) h
theorem Runs.ifY {cd : ClassFile.Cond} {x : Int32} {o : Int} {pc' : Nat} (d : DAt M pc (.ifCond cd o) 3 q) (hc : if_icmp.holds cd x 0 = true) (ho : 0 ≤ (pc : Int) + o ∧ ((pc : Int) + o).toNat = pc') (h : Runs C M k n pc' P S G Q) : Runs C M k n pc P (.int x :: S) G Q :=
  Runs.pure d (fun p e s m args below meth c T locs L hw hx hown hZ hd hP hsz _ X => ⟨L, hP, hsz, fun t r => XS.ifYes (g := mkF m pc L (.int x :: S)) X.here hx rfl (pc0 := pc) rfl hd rfl ((if0 _ _).trans hc) ho.1 ho.2 r⟩) h
theorem Runs.ifN {cd : ClassFile.Cond} {x : Int32} {o : Int} (d : DAt M pc (.ifCond cd o) 3 q) (hc : if_icmp.holds cd x 0 = false) (h : Runs C M k n q P S G Q) : Runs C M k n pc P (.int x :: S) G Q :=
  Runs.stk d (fun p e s m args below meth c T locs L hx hd hP X t r => XS.ifNo (g := mkF m pc L (.int x :: S)) X.here hx rfl hd rfl ((if0 _ _).trans hc) r) h
theorem Runs.icY {cd : ClassFile.Cond} {x y : Int32} {o : Int} {pc' : Nat} (d : DAt M pc (.if_icmp cd o) 3 q) (hc : if_icmp.holds cd x y = true) (ho : 0 ≤ (pc : Int) + o ∧ ((pc : Int) + o).toNat = pc') (h : Runs C M k n pc' P S G Q) : Runs C M k n pc P (.int y :: .int x :: S) G Q :=
  Runs.pure d (fun p e s m args below meth c T locs L hw hx hown hZ hd hP hsz _ X => ⟨L, hP, hsz, fun t r => XS.icmpYes (g := mkF m pc L (.int y :: .int x :: S)) X.here hx rfl (pc0 := pc) rfl hd rfl hc ho.1 ho.2 r⟩) h
theorem Runs.icN {cd : ClassFile.Cond} {x y : Int32} {o : Int} (d : DAt M pc (.if_icmp cd o) 3 q) (hc : if_icmp.holds cd x y = false) (h : Runs C M k n q P S G Q) : Runs C M k n pc P (.int y :: .int x :: S) G Q :=
  Runs.stk d (fun p e s m args below meth c T locs L hx hd hP X t r => XS.icmpNo (g := mkF m pc L (.int y :: .int x :: S)) X.here hx rfl hd rfl hc r) h
theorem Runs.tswI {dflt low high : Int} {offs : Array Int} {len : Nat} {o : Int} {pc' : Nat} {i : Int32} (d : DAt M pc (.tableswitch dflt low high offs) len q) (hin : ¬ (i.toInt < low ∨ i.toInt > high)) (hoff : offs[(i.toInt - low).toNat]? = some o) (ho : 0 ≤ (pc : Int) + o ∧ ((pc : Int) + o).toNat = pc') (h : Runs C M k n pc' P S G Q) : Runs C M k n pc P (.int i :: S) G Q :=
  Runs.pure d (fun p e s m args below meth c T locs L hw hx hown hZ hd hP hsz _ X => ⟨L, hP, hsz, fun t r => XS.tswIn (g := mkF m pc L (.int i :: S)) X.here hx rfl (pc0 := pc) rfl hd rfl hin hoff ho.1 ho.2 r⟩) h
theorem Runs.tswO {dflt low high : Int} {offs : Array Int} {len : Nat} {pc' : Nat} {i : Int32} (d : DAt M pc (.tableswitch dflt low high offs) len q) (hout : i.toInt < low ∨ i.toInt > high) (ho : 0 ≤ (pc : Int) + dflt ∧ ((pc : Int) + dflt).toNat = pc') (h : Runs C M k n pc' P S G Q) : Runs C M k n pc P (.int i :: S) G Q :=
  Runs.pure d (fun p e s m args below meth c T locs L hw hx hown hZ hd hP hsz _ X => ⟨L, hP, hsz, fun t r => XS.tswOut (g := mkF m pc L (.int i :: S)) X.here hx rfl (pc0 := pc) rfl hd rfl hout ho.1 ho.2 r⟩) h
theorem Runs.istoreN {j : Fin 4} {x : Int32} (d : DAt M pc (.istore_n j) 1 q) (hi : j.val < M.2.2.1) (hP' : ps1 P j.val (.int x) = P') (h : Runs C M k n q P' S G Q) : Runs C M k n pc P (.int x :: S) G Q := by
  have hq := d.2
  subst hq hP'
  refine Runs.pure d (fun p e s m args below meth c T locs L hw hx hown hZ hd hP hsz _ X => ?_) h
  obtain ⟨L', e1, e2, e3⟩ := hP.store1 (i := j.val) (v := .int x) (by omega) rfl
  exact ⟨L', e3, e2.trans hsz, fun t r => XS.istoreN (g := mkF m pc L (.int x :: S)) X.here hx rfl hd rfl e1 r⟩
theorem Runs.istore {j : Nat} {x : Int32} (d : DAt M pc (.istore j) 2 q) (hi : j < M.2.2.1) (hP' : ps1 P j (.int x) = P') (h : Runs C M k n q P' S G Q) : Runs C M k n pc P (.int x :: S) G Q := by
  have hq := d.2
  subst hq hP'
  refine Runs.pure d (fun p e s m args below meth c T locs L hw hx hown hZ hd hP hsz _ X => ?_) h
  obtain ⟨L', e1, e2, e3⟩ := hP.store1 (i := j) (v := .int x) (by omega) rfl
  exact ⟨L', e3, e2.trans hsz, fun t r => XS.istore (g := mkF m pc L (.int x :: S)) X.here hx rfl hd rfl e1 r⟩
theorem Runs.astoreN {j : Fin 4} {x : Nat} (d : DAt M pc (.astore_n j) 1 q) (hi : j.val < M.2.2.1) (hP' : ps1 P j.val (.ref x) = P') (h : Runs C M k n q P' S G Q) : Runs C M k n pc P (.ref x :: S) G Q := by
  have hq := d.2
  subst hq hP'
  refine Runs.pure d (fun p e s m args below meth c T locs L hw hx hown hZ hd hP hsz _ X => ?_) h
  obtain ⟨L', e1, e2, e3⟩ := hP.store1 (i := j.val) (v := .ref x) (by omega) rfl
  exact ⟨L', e3, e2.trans hsz, fun t r => XS.astoreN (g := mkF m pc L (.ref x :: S)) X.here hx rfl hd rfl rfl e1 r⟩
theorem Runs.astore {j : Nat} {x : Nat} (d : DAt M pc (.astore j) 2 q) (hi : j < M.2.2.1) (hP' : ps1 P j (.ref x) = P') (h : Runs C M k n q P' S G Q) : Runs C M k n pc P (.ref x :: S) G Q := by
  have hq := d.2
  subst hq hP'
  refine Runs.pure d (fun p e s m args below meth c T locs L hw hx hown hZ hd hP hsz _ X => ?_) h
  obtain ⟨L', e1, e2, e3⟩ := hP.store1 (i := j) (v := .ref x) (by omega) rfl
  exact ⟨L', e3, e2.trans hsz, fun t r => XS.astore (g := mkF m pc L (.ref x :: S)) X.here hx rfl hd rfl rfl e1 r⟩
theorem Runs.lstoreN {j : Fin 4} {x : Int64} (d : DAt M pc (.lstore_n j) 1 q) (hi : j.val + 1 < M.2.2.1) (hP' : ps2 P j.val (.long x) = P') (h : Runs C M k n q P' S G Q) : Runs C M k n pc P (.long x :: S) G Q := by
  have hq := d.2
  subst hq hP'
  refine Runs.pure d (fun p e s m args below meth c T locs L hw hx hown hZ hd hP hsz _ X => ?_) h
  obtain ⟨L', e1, e2, e3⟩ := hP.store2 (i := j.val) (v := .long x) (by omega) rfl
  exact ⟨L', e3, e2.trans hsz, fun t r => XS.lstoreN (g := mkF m pc L (.long x :: S)) X.here hx rfl hd rfl e1 r⟩
theorem Runs.lstore {j : Nat} {x : Int64} (d : DAt M pc (.lstore j) 2 q) (hi : j + 1 < M.2.2.1) (hP' : ps2 P j (.long x) = P') (h : Runs C M k n q P' S G Q) : Runs C M k n pc P (.long x :: S) G Q := by
  have hq := d.2
  subst hq hP'
  refine Runs.pure d (fun p e s m args below meth c T locs L hw hx hown hZ hd hP hsz _ X => ?_) h
  obtain ⟨L', e1, e2, e3⟩ := hP.store2 (i := j) (v := .long x) (by omega) rfl
  exact ⟨L', e3, e2.trans hsz, fun t r => XS.lstore (g := mkF m pc L (.long x :: S)) X.here hx rfl hd rfl e1 r⟩
theorem Runs.iinc {j : Nat} {cst : Int} {x v : Int32} (d : DAt M pc (.iinc j cst) 3 q) (hv : Int32.ofInt cst = v) (hl : pget P j = vi x) (hi : j < M.2.2.1) (hP' : ps1 P j (.int (x + v)) = P') (h : Runs C M k n q P' S G Q) : Runs C M k n pc P S G Q := by
  have hq := d.2
  subst hq hP' hv
  refine Runs.pure d (fun p e s m args below meth c T locs L hw hx hown hZ hd hP hsz _ X => ?_) h
  obtain ⟨L', e1, e2, e3⟩ := hP.store1 (i := j) (v := .int (x + Int32.ofInt cst)) (by omega) rfl
  exact ⟨L', e3, e2.trans hsz, fun t r => XS.iinc (g := mkF m pc L S) X.here hx rfl hd (hP.1 _ _ hl) e1 r⟩
/-- less is known of the locals -/
def psub : Pat → Pat → Prop
  | [], _ => True
  | none :: l, _ :: l' => psub l l'
  | some s :: l, y :: l' => y = some s ∧ psub l l'
  | none :: l, [] => psub l []
  | some _ :: _, [] => False
theorem psub_get : ∀ (P P' : Pat), psub P P' → ∀ i s, pget P i = some s → pget P' i = some s
  | [], _, _, i, s, h => by simp [pget] at h
  | none :: l, _ :: l', H, 0, s, h => by simp [pget] at h
  | none :: l, _ :: l', H, i + 1, s, h => psub_get l l' H i s h
  | some x :: l, y :: l', H, 0, s, h => by rw [show y = some x from H.1]; exact h
  | some x :: l, y :: l', H, i + 1, s, h => psub_get l l' H.2 i s h
  | none :: l, [], H, 0, s, h => by simp [pget] at h
  | none :: l, [], H, i + 1, s, h => by have := psub_get l [] H i s h; simp [pget] at this
  | some _ :: _, [], H, _, _, _ => H.elim
theorem Runs.weak (hP : psub P' P) (h : Runs C M k n pc P' S G Q) : Runs C M k n pc P S G Q := by
  intro hw p e s m args below meth c T locs L hx hby hml hret hnm hown hZ hf
  exact h hw p e s m args below meth c T locs L hx hby hml hret hnm hown hZ ⟨fun i s hi => hf.1 i s (psub_get _ _ hP i s hi), hf.2⟩
theorem Runs.swap {top : Nat} {x y : Nat × Nat × Rec} {H : List (Nat × Nat × Rec)} (h : Runs C M k n pc P S (top, y :: x :: H) Q) : Runs C M k n pc P S (top, x :: y :: H) Q := by
  intro hw p e s m args below meth c T locs L hx hby hml hret hnm hown hZ hf hsz X hR hF
  exact h hw p e s m args below meth c T locs L hx hby hml hret hnm hown hZ hf hsz X hR.swap hF
end Rules
/- the steps that touch the heap -/
section Made
variable {p : Program} {l : Launch} {e : Env} {R : Room} {s : State} {m : MethodId} {args : Array Value} {below : List Frame} {meth : Method} {c : Code} {T : State} {locs : List Loc} {cells slots : Nat} {Z : State} {a0 : Array Value}
theorem ext_push (h : Heap) (x : Cell) : Ext h (h.push x) := ⟨by simp, fun a c q => by rw [Array.getElem?_push_lt (Array.getElem?_eq_some_iff.mp q).1]; exact (Array.getElem?_eq_getElem _).symm.trans q⟩
/-- 'new', with the heap's size behind it -/
theorem new1 (X : Stand p l e R s m args below meth c T locs cells slots) (hx : p.tables.exec = Jvm.exec) (hZ : Z.Warmed39 s.vm) {own C : String} {index n : Nat} (hown : s.vm.findClass own = some m.cls) (w : (Jvm.Cond.classLink own index C).before a0 Z = true) (wi : (Jvm.Cond.instantiable C n).before a0 Z = true) (wz : (Jvm.Cond.initialized C).before a0 Z = true)
    {g : JFrame} (hg : g.method = m) (hd : decode c.code g.pc = .ok (.new index, 3)) (hc : cells + 1 ≤ R.cells) (hl : slots + n ≤ R.slots) :
    ∃ T', Stand p l e R s m args below meth c T' locs (cells + 1) (slots + n) ∧ T'.heap.size = T.heap.size + 1 ∧ Ext T.heap T'.heap ∧ Exa Z T'.heap T.heap.size C ∧ (∀ {O nm d : String} {ty : FieldType}, Laid Z a0 C O nm d → parseFieldDescriptor d = some ty → Fld Z T'.heap T.heap.size O nm d (defaultValue ty)) ∧
      ∀ target, Steps p.tables e below (T'.setTop { g with pc := g.pc + 3, stack := .ref T.heap.size :: g.stack }) target → Steps p.tables e below (T.setTop g) target := by
  obtain ⟨vm', cC, kC, h1, h2, h3, h4, X', st⟩ := X.newCold hx hown (mv hZ w) (mv hZ wi) (mv hZ wz) hg hd hc hl
  rw [hZ.alike.findClass] at h1
  obtain ⟨kZ, z1, -⟩ := Vm.findClass_spec h1
  obtain ⟨k', z2, z3⟩ := hZ.alike.2.2 _ _ z1
  have ek : kC.instanceTypes = kZ.instanceTypes := by rw [Option.some.inj (h2.symm.trans z2), z3]
  obtain ⟨cell, hcell⟩ : ∃ cell : Cell, cell = { cls := cC, slots := kC.instanceTypes.map defaultValue, vm := .none } := ⟨_, rfl⟩
  rw [← hcell] at X' st
  have hp : ((T.setVm vm').pushCell cell).heap = T.heap.push cell := rfl
  have at' : (T.heap.push cell)[T.heap.size]? = some cell := by simp
  refine ⟨_, X', by rw [hp]; simp, by rw [hp]; exact ext_push _ _, ?_, fun {O nm d ty} L ht => ?_, st⟩
  · rw [hp]; exact ⟨cell, kZ, at', by rw [hcell]; exact h1, by rw [hcell]; exact z1, by rw [hcell]; rfl, fun _ => by rw [hcell]; simp [ek]⟩
  · rw [hp]
    obtain ⟨c1, k1, cf, kf, i, f, a1, a2, a3, a4, a5, a6, -⟩ := L.spec
    cases h1.symm.trans a1
    cases z1.symm.trans a2
    refine ⟨cell, cf, kf, i, f, at', a3, a4, by rw [hcell]; simp, by rw [hcell]; rfl, by rw [hcell]; exact a5, ?_⟩
    rw [hcell]; simp [ek, a6, (State.fieldFound?_type a3 ht).2]
theorem newArr1 (X : Stand p l e R s m args below meth c T locs cells slots) (hx : p.tables.exec = Jvm.exec) (hZ : Z.Warmed39 s.vm) {aty : ArrayType} (w : (Jvm.Cond.arrayClass (newarray.typeOf aty)).before a0 Z = true) {g : JFrame} (hg : g.method = m) (hd : decode c.code g.pc = .ok (.newarray aty, 2)) {n : Int32} {rest : List Value} (hs : g.stack = .int n :: rest)
    (hn : ¬ n < 0) (hb : n.toNatClampNeg * 8 ≤ 536870912) (hc : cells + 1 ≤ R.cells) (hl : slots + n.toNatClampNeg ≤ R.slots) :
    ∃ T' cA, Stand p l e R s m args below meth c T' locs (cells + 1) (slots + n.toNatClampNeg) ∧ T'.heap.size = T.heap.size + 1 ∧ Ext T.heap T'.heap ∧ Arr Z T'.heap T.heap.size (newA cA (newarray.typeOf aty) n) (newarray.typeOf aty) ∧
      ∀ target, Steps p.tables e below (T'.setTop { g with pc := g.pc + 2, stack := .ref T.heap.size :: rest }) target → Steps p.tables e below (T.setTop g) target := by
  have hcb : componentBytes (newarray.typeOf aty) ≤ 8 := by cases aty <;> decide
  obtain ⟨cA, kA, comp, h1, h2, h3, X', st⟩ := X.newarrayPrim hx (mvA hZ w) hg hd hs hn (Nat.le_trans (Nat.mul_le_mul_left _ hcb) hb) hc hl
  rw [hZ.alike.findClass] at h1
  obtain ⟨kZ, z1, -⟩ := Vm.findClass_spec h1
  obtain ⟨k', z2, z3⟩ := hZ.alike.2.2 _ _ z1
  have ek : kA.kind = kZ.kind := by rw [Option.some.inj (h2.symm.trans z2), z3]
  have hp : (T.pushCell (newA cA (newarray.typeOf aty) n)).heap = T.heap.push (newA cA (newarray.typeOf aty) n) := rfl
  refine ⟨T.pushCell (newA cA (newarray.typeOf aty) n), cA, X', by rw [hp]; simp, by rw [hp]; exact ext_push _ _, ?_, st⟩
  rw [hp]
  exact ⟨by simp, ⟨by simp [newA], kZ, z1, comp, by rw [← ek]; exact h3⟩, by simp [newA]⟩
end Made
section Heap
variable {C : Ctx} {M : Bdy} {k n pc q : Nat} {P P' : Pat} {S S' : List Value} {G : AH} {Q : Option Value → AH → Prop} {top : Nat} {a : Nat} {qq j idx : Nat} {ob : Rec} {H : List (Nat × Nat × Rec)} {nm ds : String}
theorem Runs.getI (d : DAt M pc (.getfield idx) 3 q) (w : Jvm.Cond.fieldLink M.1.cls idx K.1 nm ds ∈ tables_1) (hk : K.2.1[j]? = some (nm, ds)) (h : Runs C M k n q P (.int (gI ob j) :: S) (top, (a, qq, ob) :: H) Q) : Runs C M k n pc P (.ref a :: S) (top, (a, qq, ob) :: H) Q := by
  intro hw p e s m args below meth c T locs L hx hby hml hret hnm hown hZ hf hsz X hR hF
  have hq := d.2
  subst hq
  obtain ⟨T1, X1, e1, st1⟩ := getF X hx hZ hown (host := "") (Or.inl (hw _ w)) Via.refl rfl (hR.objs.2.2.2.1 j _ hk) (g := mkF m pc L (.ref a :: S)) rfl rfl (hb hby d.1)
  obtain ⟨T', locs', k', n', r, G', g1, g2, g3, g4, g5, g6, g7, g8⟩ := h hw p e s m args below meth c T1 locs L hx hby hml hret hnm hown hZ hf hsz X1 (by rw [e1]; exact hR) hF
  exact ⟨T', locs', k', n', r, G', g1, g2, g3, g4, g5, g6, g7, fun fs hr => st1 _ (g8 fs hr)⟩
theorem Runs.getA {ty : FieldType} {len : Int32} (d : DAt M pc (.getfield idx) 3 q) (hk : K.2.2[j]? = some (nm, ty, len)) (w : Jvm.Cond.fieldLink M.1.cls idx K.1 nm (aD ty) ∈ tables_1) (hq : j < qq) (h : Runs C M k n q P (.ref (a + 1 + j) :: S) (top, (a, qq, ob) :: H) Q) : Runs C M k n pc P (.ref a :: S) (top, (a, qq, ob) :: H) Q := by
  intro hw p e s m args below meth c T locs L hx hby hml hret hnm hown hZ hf hsz X hR hF
  have hqq := d.2
  subst hqq
  obtain ⟨T1, X1, e1, st1⟩ := getF X hx hZ hown (host := "") (Or.inl (hw _ w)) Via.refl rfl (hR.objs.2.2.2.2.1 j _ hk hq).1 (g := mkF m pc L (.ref a :: S)) rfl rfl (hb hby d.1)
  obtain ⟨T', locs', k', n', r, G', g1, g2, g3, g4, g5, g6, g7, g8⟩ := h hw p e s m args below meth c T1 locs L hx hby hml hret hnm hown hZ hf hsz X1 (by rw [e1]; exact hR) hF
  exact ⟨T', locs', k', n', r, G', g1, g2, g3, g4, g5, g6, g7, fun fs hr => st1 _ (g8 fs hr)⟩
theorem lw_of {Z : State} {a0 : Array Value} {meth : Method} (hw : ∀ d ∈ tables_1, d.before a0 Z = true) {C O n d own : String} (h : Jvm.Cond.lays C O n d ∈ tables_1 ∨ Jvm.Cond.laysFinal C O n d ∈ tables_1) (hc : Jvm.Cond.lays C O n d ∈ tables_1 ∨ (own = O ∧ meth.name = "<init>")) : (Jvm.Cond.lays C O n d).before a0 Z = true ∨ ((Jvm.Cond.laysFinal C O n d).before a0 Z = true ∧ own = O ∧ meth.name = "<init>") := by
  rcases hc with hc | hc
  · exact Or.inl (hw _ hc)
  · exact h.imp (hw _) (fun u => ⟨hw _ u, hc⟩)
/-- a field that may be written here: not final, or in a constructor of its class -/
def Mine (M : Bdy) (nm ds : String) : Prop := Jvm.Cond.lays K.1 K.1 nm ds ∈ tables_1 ∨ (M.1.cls = K.1 ∧ M.1.name = "<init>")
theorem Runs.putI {x : Int32} (d : DAt M pc (.putfield idx) 3 q) (w : Jvm.Cond.fieldLink M.1.cls idx K.1 nm "I" ∈ tables_1) (hk : K.2.1[j]? = some (nm, "I")) (hm : Mine M nm "I") (h : Runs C M k n q P S (top, (a, qq, sI ob j x) :: H) Q) : Runs C M k n pc P (.int x :: .ref a :: S) (top, (a, qq, ob) :: H) Q := by
  intro hw p e s m args below meth c T locs L hx hby hml hret hnm hown hZ hf hsz X hR hF
  have hqq := d.2
  subst hqq
  obtain ⟨T1, h1, X1, e1, W1, st1⟩ := putF X hx hZ hown (host := "") (Or.inl (hw _ w)) Via.refl rfl (hR.objs.2.2.2.1 j _ hk) hR.objs.2.2.1 (lw_of hw ((All.mem kS (List.mem_of_getElem? hk)).1) (hm.imp id (fun u => ⟨u.1, hnm.trans u.2⟩))) (hw _ kI) (ty := .int) (by decide) rfl rfl (g := mkF m pc L (.int x :: .ref a :: S)) rfl rfl (hb hby d.1)
  obtain ⟨T', locs', k', n', r, G', g1, g2, g3, g4, g5, g6, g7, g8⟩ := h hw p e s m args below meth c T1 _ L hx hby hml hret hnm hown hZ hf hsz X1 (by rw [e1]; exact hR.putI hw hk W1) (Fr.snoc X1 hF hR.objs.1)
  exact ⟨T', locs', k', n', r, G', g1, g2, g3, g4, g5, g6, g7, fun fs hr => st1 _ (g8 fs hr)⟩
theorem Runs.putZ {x y : Int32} (d : DAt M pc (.putfield idx) 3 q) (w : Jvm.Cond.fieldLink M.1.cls idx K.1 nm "Z" ∈ tables_1) (hk : K.2.1[j]? = some (nm, "Z")) (hm : Mine M nm "Z") (hy : nar .boolean x = y) (h : Runs C M k n q P S (top, (a, qq, sI ob j y) :: H) Q) : Runs C M k n pc P (.int x :: .ref a :: S) (top, (a, qq, ob) :: H) Q := by
  subst hy
  intro hw p e s m args below meth c T locs L hx hby hml hret hnm hown hZ hf hsz X hR hF
  have hqq := d.2
  subst hqq
  obtain ⟨T1, h1, X1, e1, W1, st1⟩ := putFN X hx hZ hown (hw _ w) Via.refl rfl (hR.objs.2.2.2.1 j _ hk) hR.objs.2.2.1 (lw_of hw ((All.mem kS (List.mem_of_getElem? hk)).1) (hm.imp id (fun u => ⟨u.1, hnm.trans u.2⟩))) (hw _ kI) (ty := .boolean) (v' := .int (nar .boolean x)) (by decide) rfl (fits_nar_bool _) (g := mkF m pc L (.int x :: .ref a :: S)) rfl rfl (hb hby d.1)
  obtain ⟨T', locs', k', n', r, G', g1, g2, g3, g4, g5, g6, g7, g8⟩ := h hw p e s m args below meth c T1 _ L hx hby hml hret hnm hown hZ hf hsz X1 (by rw [e1]; exact hR.putI hw hk W1) (Fr.snoc X1 hF hR.objs.1)
  exact ⟨T', locs', k', n', r, G', g1, g2, g3, g4, g5, g6, g7, fun fs hr => st1 _ (g8 fs hr)⟩
theorem Runs.ialoadA {i len : Int32} (d : DAt M pc .iaload 1 q) (hk : K.2.2[j]? = some (nm, .int, len)) (hq : j < qq) (hi : ¬ i < 0 ∧ i < len) (h : Runs C M k n q P (.int (gA ob j i) :: S) (top, (a, qq, ob) :: H) Q) : Runs C M k n pc P (.int i :: .ref (a + 1 + j) :: S) (top, (a, qq, ob) :: H) Q := by
  have hqq := d.2
  subst hqq
  refine Runs.pure d (fun p e s m args below meth c T locs L hw hx hown hZ hd hP hsz hR X => ⟨L, hP, hsz, fun t r => ?_⟩) h
  obtain ⟨cl, A, Sz, V⟩ := (hR.objs.2.2.2.2.1 j _ hk hq).2
  exact X.iaload hx (j := i) (v := .int (gA ob j i)) A.1 (State.isArrayOf_alike hZ.alike A.2.1) A.2.2 (inb_of Sz hi) (V i hi.1 hi.2) (g := mkF m pc L (.int i :: .ref (a + 1 + j) :: S)) rfl rfl hd _ r
theorem Runs.baloadA {i len : Int32} (d : DAt M pc .baload 1 q) (hk : K.2.2[j]? = some (nm, .boolean, len)) (hq : j < qq) (hi : ¬ i < 0 ∧ i < len) (h : Runs C M k n q P (.int (gA ob j i) :: S) (top, (a, qq, ob) :: H) Q) : Runs C M k n pc P (.int i :: .ref (a + 1 + j) :: S) (top, (a, qq, ob) :: H) Q := by
  have hqq := d.2
  subst hqq
  refine Runs.pure d (fun p e s m args below meth c T locs L hw hx hown hZ hd hP hsz hR X => ⟨L, hP, hsz, fun t r => ?_⟩) h
  obtain ⟨cl, A, Sz, V⟩ := (hR.objs.2.2.2.2.1 j _ hk hq).2
  exact X.baloadBooleans hx (j := i) (v := .int (gA ob j i)) A.1 (State.isArrayOf_alike hZ.alike A.2.1) A.2.2 (inb_of Sz hi) (V i hi.1 hi.2) (g := mkF m pc L (.int i :: .ref (a + 1 + j) :: S)) rfl rfl hd _ r
theorem Runs.laloadA {i len : Int32} (d : DAt M pc .laload 1 q) (hk : K.2.2[j]? = some (nm, .long, len)) (hq : j < qq) (hi : ¬ i < 0 ∧ i < len) (h : Runs C M k n q P (.long (gJ ob j i) :: S) (top, (a, qq, ob) :: H) Q) : Runs C M k n pc P (.int i :: .ref (a + 1 + j) :: S) (top, (a, qq, ob) :: H) Q := by
  have hqq := d.2
  subst hqq
  refine Runs.pure d (fun p e s m args below meth c T locs L hw hx hown hZ hd hP hsz hR X => ⟨L, hP, hsz, fun t r => ?_⟩) h
  obtain ⟨cl, A, Sz, V⟩ := (hR.objs.2.2.2.2.1 j _ hk hq).2
  exact X.laload hx (j := i) (v := .long (gJ ob j i)) A.1 (State.isArrayOf_alike hZ.alike A.2.1) A.2.2 (inb_of Sz hi) (V i hi.1 hi.2) (g := mkF m pc L (.int i :: .ref (a + 1 + j) :: S)) rfl rfl hd _ r
theorem Runs.iastoreA {i x len : Int32} (d : DAt M pc .iastore 1 q) (hk : K.2.2[j]? = some (nm, .int, len)) (hq : j < qq) (hi : ¬ i < 0 ∧ i < len) (h : Runs C M k n q P S (top, (a, qq, sA ob j i x) :: H) Q) : Runs C M k n pc P (.int x :: .int i :: .ref (a + 1 + j) :: S) (top, (a, qq, ob) :: H) Q := by
  intro hw p e s m args below meth c T locs L hx hby hml hret hnm hown hZ hf hsz X hR hF
  have hqq := d.2
  subst hqq
  obtain ⟨cl, A, Sz, V⟩ := (hR.objs.2.2.2.2.1 j _ hk hq).2
  obtain ⟨T1, h1, X1, e1, W1, st1⟩ := stI X hx hZ rfl A (j := i) (x := x) (inb_of Sz hi) (g := mkF m pc L (.int x :: .int i :: .ref (a + 1 + j) :: S)) rfl rfl (hb hby d.1)
  obtain ⟨T', locs', k', n', r, G', g1, g2, g3, g4, g5, g6, g7, g8⟩ := h hw p e s m args below meth c T1 _ L hx hby hml hret hnm hown hZ hf hsz X1 (by rw [e1]; exact hR.putA hk hq (by simp) hi W1) (Fr.snoc X1 hF (by have := hR.objs.1; omega))
  exact ⟨T', locs', k', n', r, G', g1, g2, g3, g4, g5, g6, g7, fun fs hr => st1 _ (g8 fs hr)⟩
theorem Runs.bastoreA {i x len : Int32} (d : DAt M pc .bastore 1 q) (hk : K.2.2[j]? = some (nm, .boolean, len)) (hq : j < qq) (hi : ¬ i < 0 ∧ i < len) {y : Int32} (hy : nar .boolean x = y) (h : Runs C M k n q P S (top, (a, qq, sA ob j i y) :: H) Q) : Runs C M k n pc P (.int x :: .int i :: .ref (a + 1 + j) :: S) (top, (a, qq, ob) :: H) Q := by
  subst hy
  intro hw p e s m args below meth c T locs L hx hby hml hret hnm hown hZ hf hsz X hR hF
  have hqq := d.2
  subst hqq
  obtain ⟨cl, A, Sz, V⟩ := (hR.objs.2.2.2.2.1 j _ hk hq).2
  obtain ⟨T1, h1, X1, e1, W1, st1⟩ := stZ X hx hZ rfl A (j := i) (x := x) (inb_of Sz hi) (g := mkF m pc L (.int x :: .int i :: .ref (a + 1 + j) :: S)) rfl rfl (hb hby d.1)
  obtain ⟨T', locs', k', n', r, G', g1, g2, g3, g4, g5, g6, g7, g8⟩ := h hw p e s m args below meth c T1 _ L hx hby hml hret hnm hown hZ hf hsz X1 (by rw [e1]; exact hR.putA hk hq (by simp) hi W1) (Fr.snoc X1 hF (by have := hR.objs.1; omega))
  exact ⟨T', locs', k', n', r, G', g1, g2, g3, g4, g5, g6, g7, fun fs hr => st1 _ (g8 fs hr)⟩
theorem Runs.lastoreA {i len : Int32} {x : Int64} (d : DAt M pc .lastore 1 q) (hk : K.2.2[j]? = some (nm, .long, len)) (hq : j < qq) (hi : ¬ i < 0 ∧ i < len) (h : Runs C M k n q P S (top, (a, qq, sJ ob j i x) :: H) Q) : Runs C M k n pc P (.long x :: .int i :: .ref (a + 1 + j) :: S) (top, (a, qq, ob) :: H) Q := by
  intro hw p e s m args below meth c T locs L hx hby hml hret hnm hown hZ hf hsz X hR hF
  have hqq := d.2
  subst hqq
  obtain ⟨cl, A, Sz, V⟩ := (hR.objs.2.2.2.2.1 j _ hk hq).2
  obtain ⟨T1, h1, X1, e1, W1, st1⟩ := stJ X hx hZ rfl A (j := i) (x := x) (inb_of Sz hi) (g := mkF m pc L (.long x :: .int i :: .ref (a + 1 + j) :: S)) rfl rfl (hb hby d.1)
  obtain ⟨T', locs', k', n', r, G', g1, g2, g3, g4, g5, g6, g7, g8⟩ := h hw p e s m args below meth c T1 _ L hx hby hml hret hnm hown hZ hf hsz X1 (by rw [e1]; exact hR.putJ hk hq rfl hi W1) (Fr.snoc X1 hF (by have := hR.objs.1; omega))
  exact ⟨T', locs', k', n', r, G', g1, g2, g3, g4, g5, g6, g7, fun fs hr => st1 _ (g8 fs hr)⟩
/-- the script: an array that stood before the law began -/
def ScrF (C : Ctx) (sa : Nat) (z : Int32) (f : Int32 → Int32) : Prop := ∃ cl : Cell, Scr C.2.1 C.2.1.heap sa cl z ∧ f = atv cl
theorem Runs.lenS {sa : Nat} {z : Int32} {f : Int32 → Int32} (hs : ScrF C sa z f) (d : DAt M pc .arraylength 1 q) (h : Runs C M k n q P (.int z :: S) G Q) : Runs C M k n pc P (.ref sa :: S) G Q := by
  have hqq := d.2
  subst hqq
  refine Runs.pure d (fun p e s m args below meth c T locs L hw hx hown hZ hd hP hsz hR X => ⟨L, hP, hsz, fun t r => ?_⟩) h
  obtain ⟨cl, F, -⟩ := hs
  obtain ⟨A, Sz, N, V⟩ := F.ext hR.2.1.2
  exact X.arraylength hx A.1 (State.isArrayOf_alike hZ.alike A.2.1) (g := mkF m pc L (.ref sa :: S)) rfl rfl hd _ (by rw [len_of Sz N]; exact r)
theorem Runs.ialoadS {sa : Nat} {z i : Int32} {f : Int32 → Int32} (hs : ScrF C sa z f) (d : DAt M pc .iaload 1 q) (hi : ¬ i < 0 ∧ i < z) (h : Runs C M k n q P (.int (f i) :: S) G Q) : Runs C M k n pc P (.int i :: .ref sa :: S) G Q := by
  have hqq := d.2
  subst hqq
  refine Runs.pure d (fun p e s m args below meth c T locs L hw hx hown hZ hd hP hsz hR X => ⟨L, hP, hsz, fun t r => ?_⟩) h
  obtain ⟨cl, F, rfl⟩ := hs
  obtain ⟨A, Sz, N, V⟩ := F.ext hR.2.1.2
  exact X.iaload hx (j := i) (v := .int (atv cl i)) A.1 (State.isArrayOf_alike hZ.alike A.2.1) A.2.2 (inb_of Sz hi) (V i (inb_of Sz hi)) (g := mkF m pc L (.int i :: .ref sa :: S)) rfl rfl hd _ r
/- leaving -/
theorem Runs.retI {v : Int32} (d : DAt M pc .ireturn 1 q) (hret : M.2.2.2.1 = some .int) (hk : k ≤ M.2.2.2.2.cells ∧ n ≤ M.2.2.2.2.slots) (hQ : Q (some (.int v)) G) : Runs C M k n pc P (.int v :: S) G Q := by
  intro hw p e s m args below meth c T locs L hx hby hml hr0 hnm hown hZ hf hsz X hR hF
  exact ⟨T, locs, k, n, _, G, X, hk.1, hk.2, hR, hF, hQ, (fun u => by rw [hret] at u; cases u), fun fs hr => Jvm.RoadKit.retI X hx (hr0.trans hret) (hb hby d.1) hr⟩
theorem Runs.retZ {v : Int32} (d : DAt M pc .ireturn 1 q) (hret : M.2.2.2.1 = some .boolean) (hk : k ≤ M.2.2.2.2.cells ∧ n ≤ M.2.2.2.2.slots) {y : Int32} (hy : nar .boolean v = y) (hQ : Q (some (.int y)) G) : Runs C M k n pc P (.int v :: S) G Q := by
  subst hy
  intro hw p e s m args below meth c T locs L hx hby hml hr0 hnm hown hZ hf hsz X hR hF
  exact ⟨T, locs, k, n, _, G, X, hk.1, hk.2, hR, hF, hQ, (fun u => by rw [hret] at u; cases u), fun fs hr => retN X hx (t := .boolean) (hr0.trans hret) (by simp) (hb hby d.1) hr⟩
theorem Runs.retJ {v : Int64} (d : DAt M pc .lreturn 1 q) (hret : M.2.2.2.1 = some .long) (hk : k ≤ M.2.2.2.2.cells ∧ n ≤ M.2.2.2.2.slots) (hQ : Q (some (.long v)) G) : Runs C M k n pc P (.long v :: []) G Q := by
  intro hw p e s m args below meth c T locs L hx hby hml hr0 hnm hown hZ hf hsz X hR hF
  exact ⟨T, locs, k, n, _, G, X, hk.1, hk.2, hR, hF, hQ, (fun u => by rw [hret] at u; cases u), fun fs hr => X.lreturnOut hx (hr0.trans hret) (hb hby d.1) hr⟩
theorem Runs.retV (d : DAt M pc .return_ 1 q) (hret : M.2.2.2.1 = none) (hk : k ≤ M.2.2.2.2.cells ∧ n ≤ M.2.2.2.2.slots) (hQ : Q none G) : Runs C M k n pc P [] G Q := by
  intro hw p e s m args below meth c T locs L hx hby hml hr0 hnm hown hZ hf hsz X hR hF
  exact ⟨T, locs, k, n, _, G, X, hk.1, hk.2, hR, hF, hQ, (fun _ => rfl), fun fs hr => X.returnOut hx (hr0.trans hret) (hb hby d.1) hr⟩
/- a new object, and the arrays that its constructor makes -/
theorem Runs.newK (d : DAt M pc (.new idx) 3 q) (w : Jvm.Cond.classLink M.1.cls idx K.1 ∈ tables_1) (hc : k + 1 ≤ M.2.2.2.2.cells ∧ n + kN ≤ M.2.2.2.2.slots) {k' n' : Nat} (hk' : k + 1 = k') (hn' : n + kN = n') {H : List (Nat × Nat × Rec)} (hd : ∀ x ∈ H, x.1 + x.2.1 < top) (h : Runs C M k' n' q P (.ref top :: S) (top + 1, (top, 0, zrec) :: H) Q) : Runs C M k n pc P S (top, H) Q := by
  subst hk' hn'
  intro hw p e s m args below meth c T locs L hx hby hml hr0 hnm hown hZ hf hsz X hR hF
  have hqq := d.2
  subst hqq
  obtain ⟨T2, X2, s2, E2, A2, D2, st2⟩ := new1 X hx hZ hown (hw _ w) (hw _ kI) (hw _ kZ) (g := mkF m pc L S) rfl (hb hby d.1) hc.1 hc.2
  have hs : T.heap.size = top := hR.1
  rw [hs] at A2 D2 st2 s2
  have hR2 : Rep C.2.1 C.2.2.1 T2.heap (top + 1, (top, 0, zrec) :: H) := by
    refine ⟨s2, hR.2.1.ext E2, fun x hx' => ?_, ?_⟩
    · rcases List.mem_cons.mp hx' with rfl | hx'
      · refine ⟨?_, by simp, A2, fun k nd hk => ?_, fun k t hk hq => by simp at hq, fun k t hk hq => ?_⟩
        · have := hR.2.1.2.1; rw [hR.2.1.1] at this; simp only; omega
        · rcases (All.mem kS (List.mem_of_getElem? hk)).2 with e | e
          · have := D2 (laidS hw hk) (ty := .int) (by rw [e]; decide); exact this
          · have := D2 (laidS hw hk) (ty := .boolean) (by rw [e]; decide); exact this
        · have := D2 (laidA hw hk) (pfA hk); exact this
      · obtain ⟨p1, p2, p3⟩ := hR.2.2.1 x hx'
        exact ⟨p1, by simp only at p2 ⊢; omega, p3.ext E2⟩
    · exact List.pairwise_cons.mpr ⟨fun y hy => Or.inr (hd y hy), hR.2.2.2⟩
  obtain ⟨T', locs', k', n', r, G', g1, g2, g3, g4, g5, g6, g7, g8⟩ := h hw p e s m args below meth c T2 _ L hx hby hml hr0 hnm hown hZ hf hsz X2 hR2 hF
  exact ⟨T', locs', k', n', r, G', g1, g2, g3, g4, g5, g6, g7, fun fs hr => st2 _ (g8 fs hr)⟩
/-- newarray and the putfield behind it: the next array of an object that is being made -/
theorem Runs.newArr {aty : ArrayType} {ty : FieldType} {len : Int32} {q1 : Nat} (d : DAt M pc (.newarray aty) 2 q1) (d' : DAt M q1 (.putfield idx) 3 q) (hk : K.2.2[j]? = some (nm, ty, len)) (w : Jvm.Cond.fieldLink M.1.cls idx K.1 nm (aD ty) ∈ tables_1) (ht : newarray.typeOf aty = ty) (wa : Jvm.Cond.arrayClass ty ∈ tables_1) (hm : Mine M nm (aD ty))
    (htop : top = a + 1 + j) (hlen : ¬ len < 0 ∧ len.toNatClampNeg * 8 ≤ 536870912) (hc : k + 1 ≤ M.2.2.2.2.cells ∧ n + len.toNatClampNeg ≤ M.2.2.2.2.slots) (hz : (∀ i, ob.2.1 j i = 0) ∧ (∀ i, ob.2.2 j i = 0)) {j' top' k' n' : Nat} (hj' : j + 1 = j') (ht' : top + 1 = top') (hk' : k + 1 = k') (hn' : n + len.toNatClampNeg = n')
    (h : Runs C M k' n' q P S (top', (a, j', ob) :: H) Q) : Runs C M k n pc P (.int len :: .ref a :: S) (top, (a, j, ob) :: H) Q := by
  subst hj' ht' hk' hn'
  intro hw p e s m args below meth c T locs L hx hby hml hr0 hnm hown hZ hf hsz X hR hF
  have hqq := d.2
  have hqq' := d'.2
  subst hqq hqq' ht
  obtain ⟨T1, cA, X1, s1, E1, A1, st1⟩ := newArr1 X hx hZ (hw _ wa) (g := mkF m pc L (.int len :: .ref a :: S)) rfl (hb hby d.1) rfl hlen.1 hlen.2 hc.1 hc.2
  have hs : T.heap.size = top := hR.1
  rw [hs] at A1 st1 s1
  have O1 := hR.objs.2.2.ext E1
  obtain ⟨T2, h2, X2, e2, W2, st2⟩ := putF X1 hx hZ hown (host := "") (Or.inl (hw _ w)) Via.refl rfl (O1.2.2.2 j _ hk (Nat.le_refl _)) O1.1 (lw_of hw ((All.mem kA (List.mem_of_getElem? hk)).1) (hm.imp id (fun u => ⟨u.1, hnm.trans u.2⟩))) (hw _ kI) (ty := .array (newarray.typeOf aty)) (pfA hk) rfl rfl (g := mkF m (pc + 2) L (.ref top :: .ref a :: S)) rfl rfl (hb hby d'.1)
  have hts : (newarray.typeOf aty = .int ∨ newarray.typeOf aty = .boolean ∨ newarray.typeOf aty = .long) := (All.mem kA (List.mem_of_getElem? hk)).2.1
  have hA := arr_new A1 hts hz
  have hR2 : Rep C.2.1 C.2.2.1 T2.heap (top + 1, (a, j + 1, ob) :: H) := by rw [e2]; exact hR.addA hw E1 s1 htop hk hA W2
  obtain ⟨T', locs', k', n', r, G', g1, g2, g3, g4, g5, g6, g7, g8⟩ := h hw p e s m args below meth c T2 _ L hx hby hml hr0 hnm hown hZ hf hsz X2 hR2 (Fr.snoc X2 hF hR.objs.1)
  exact ⟨T', locs', k', n', r, G', g1, g2, g3, g4, g5, g6, g7, fun fs hr => st1 _ (st2 _ (g8 fs hr))⟩
theorem Runs.initO {W : Nat} (d : DAt M pc (.invokespecial idx) 3 q) (w1 : Jvm.Cond.methodLink M.1.cls idx Lib.objectInit ∈ tables_1) (w2 : Jvm.Cond.instanceMethod Lib.objectInit ∈ tables_1) (w3 : Jvm.Cond.code Lib.objectInit ⟨#[0xb1]⟩ 1 none ∈ tables_1) (hW : (S.map fun v => v.category).sum = W) (hc : 1 ≤ M.2.2.2.2.frames ∧ W + 12 ≤ M.2.2.2.2.locals) (h : Runs C M k n q P S G Q) : Runs C M k n pc P (.ref a :: S) G Q := by
  intro hw p e s m args below meth c T locs L hx hby hml hr0 hnm hown hZ hf hsz X hR hF
  have hqq := d.2
  subst hqq
  obtain ⟨T1, X1, e1, st1⟩ := Jvm.RoadKit.initO X hx hZ hown (hw _ w1) (hw _ w2) (hw _ w3) rfl (g := mkF m pc L (.ref a :: S)) rfl (by rw [hml]; exact hsz) rfl (hb hby d.1) hc.1 (W := W) (by show 2 * 0 + _ ≤ _; omega) hc.2
  obtain ⟨T', locs', k', n', r, G', g1, g2, g3, g4, g5, g6, g7, g8⟩ := h hw p e s m args below meth c T1 _ L hx hby hml hr0 hnm hown hZ hf hsz X1 (by rw [e1]; exact hR) hF
  exact ⟨T', locs', k', n', r, G', g1, g2, g3, g4, g5, g6, g7, fun fs hr => st1 _ (g8 fs hr)⟩
end Heap
/- a body's contract, and the calls that are paid by one -/
def Pays (C : Ctx) (N : Bdy) (as : List Value) (G : AH) (Q : Option Value → AH → Prop) : Prop :=
  Ok C → ∀ h0 : Heap, Rep C.2.1 C.2.2.1 h0 G → ∀ ws : List Jvm.Cond, MetFree C.1 N.1 (head1 (Jvm.Cond.code N.1 N.2.1 N.2.2.1 N.2.2.2.1 :: ws) N.2.2.2.2) (fun a U => a = as.toArray ∧ C.2.1.Warmed39 U.vm ∧ U.heap = h0) (fun _ _ _ _ _ => True)
    (fun _ U o U' => ∃ v L, o = .returned v ∧ (Fr C.2.2.1 L ∧ ∃ G', Rep C.2.1 C.2.2.1 U'.heap G' ∧ Q v G') ∧ FrameEnd U o U' L N.2.2.2.2.cells N.2.2.2.2.slots)
def lay : List Value → List Slot
  | [] => []
  | v :: l => if v.category = 2 then .val v :: .second :: lay l else .val v :: lay l
theorem lay_foldl (l : List Value) : ∀ acc : Array Slot, (l.foldl (fun acc v => if v.category = 2 then (acc.push (.val v)).push .second else acc.push (.val v)) acc).toList = acc.toList ++ lay l := by
  induction l with
  | nil => intro acc; simp [lay]
  | cons v l ih =>
    intro acc
    rw [List.foldl_cons, ih]
    by_cases h : v.category = 2 <;> simp [lay, h]
theorem args_lay (as : List Value) (ml : Nat) : argsToLocals as.toArray ml = (lay as ++ List.replicate (ml - (lay as).length) Slot.unset).toArray := by
  have h := lay_foldl as #[]
  apply Array.ext'
  simp only [argsToLocals, Array.toList_append, List.toList_toArray] at *
  rw [show (as.toArray.foldl (init := #[]) fun acc v => if v.category = 2 then (acc.push (Slot.val v)).push .second else acc.push (.val v)).toList = lay as by simpa using h]
  congr 1
  rw [← Array.length_toList, show (as.toArray.foldl (init := #[]) fun acc v => if v.category = 2 then (acc.push (Slot.val v)).push .second else acc.push (.val v)).toList = lay as by simpa using h]
  simp
def WFL (l : List Slot) : Prop := (∀ i : Nat, l[i]? = some .second → ∃ (j : Nat) (v : Value), i = j + 1 ∧ l[j]? = some (.val v) ∧ v.category = 2) ∧ (∀ (i : Nat) (v : Value), l[i]? = some (.val v) → v.category = 2 → l[i + 1]? = some .second)
theorem WFL.unset (n : Nat) : WFL (List.replicate n Slot.unset) := by
  refine ⟨fun i h => ?_, fun i v h => ?_⟩ <;> (rw [List.getElem?_replicate] at h; split at h <;> cases h)
theorem WFL.one {l : List Slot} {v : Value} (h : WFL l) (hv : v.category ≠ 2) : WFL (.val v :: l) := by
  refine ⟨fun i hi => ?_, fun i w hi hw => ?_⟩
  · cases i with
    | zero => simp at hi
    | succ i =>
      obtain ⟨j, w, e1, e2, e3⟩ := h.1 i (by simpa using hi)
      exact ⟨j + 1, w, by omega, by simpa using e2, e3⟩
  · cases i with
    | zero => simp at hi; subst hi; exact absurd hw hv
    | succ i => have := h.2 i w (by simpa using hi) hw; simpa using this
theorem WFL.two {l : List Slot} {v : Value} (h : WFL l) (hv : v.category = 2) : WFL (.val v :: .second :: l) := by
  refine ⟨fun i hi => ?_, fun i w hi hw => ?_⟩
  · match i, hi with
    | 0, hi => simp at hi
    | 1, hi => exact ⟨0, v, rfl, by simp, hv⟩
    | i + 2, hi =>
      obtain ⟨j, w, e1, e2, e3⟩ := h.1 i (by simpa using hi)
      exact ⟨j + 2, w, by omega, by simpa using e2, e3⟩
  · match i, hi with
    | 0, hi => simp
    | 1, hi => simp at hi
    | i + 2, hi => have := h.2 i w (by simpa using hi) hw; simpa using this
theorem WFL.lay (as : List Value) (n : Nat) : WFL (lay as ++ List.replicate n Slot.unset) := by
  induction as with
  | nil => exact WFL.unset n
  | cons v l ih =>
    by_cases h : v.category = 2
    · simpa [Jvm.Pilot.@@N@@.lay, h] using ih.two h
    · simpa [Jvm.Pilot.@@N@@.lay, h] using ih.one h
def pforget : List Bool → Pat → Pat
  | [], _ => []
  | _, [] => []
  | true :: ms, x :: l => x :: pforget ms l
  | false :: ms, _ :: l => none :: pforget ms l
theorem pforget_get : ∀ (ms : List Bool) (P : Pat) (i : Nat) (s : Slot), pget (pforget ms P) i = some s → pget P i = some s
  | [], _, i, s, h => by simp [pforget, pget] at h
  | _ :: _, [], i, s, h => by simp [pforget, pget] at h
  | true :: ms, x :: l, 0, s, h => h
  | true :: ms, x :: l, i + 1, s, h => pforget_get ms l i s h
  | false :: ms, x :: l, 0, s, h => by simp [pforget, pget] at h
  | false :: ms, x :: l, i + 1, s, h => pforget_get ms l i s h
section Calls
variable {C : Ctx} {M N : Bdy} {k n pc q : Nat} {P P' : Pat} {S S' : List Value} {G G1 : AH} {Q : Option Value → AH → Prop} {top : Nat} {a : Nat} {qq j idx W : Nat} {ob : Rec} {H : List (Nat × Nat × Rec)} {as : List Value}
theorem Runs.forget (ms : List Bool) (hP : pforget ms P = P') (h : Runs C M k n pc P' S G Q) : Runs C M k n pc P S G Q := by
  intro hw p e s m args below meth c T locs L hx hby hml hret hnm hown hZ hf
  subst hP
  exact h hw p e s m args below meth c T locs L hx hby hml hret hnm hown hZ ⟨fun i s hi => hf.1 i s (pforget_get _ _ i s hi), hf.2⟩
theorem Pays.of (hpl : plainName N.1.cls = true) (hml : (lay as).length ≤ N.2.2.1) (x : Nat) (hP : (lay as).map some ++ List.replicate x none = P) (h : Runs C N 0 0 0 P [] G Q) : Pays C N as G Q := by
  intro hw h0 hR ws
  refine MetFree.of_bodySF (plainFor_of_name hpl) hisR ?_
  intro p e s m args below meth c s₁ Bd hml0 hp hK
  obtain ⟨rfl, hZ, hh⟩ := hp
  have X0 : Stand p C.1 e N.2.2.2.2 s m as.toArray below meth c s₁ [] 0 0 := Stand.of_body Bd
  have e0 : s₁.heap = h0 := by rw [← hh, Bd.state]; rfl
  obtain ⟨L, hL⟩ : ∃ L : Array Slot, L = (lay as ++ List.replicate (N.2.2.1 - (lay as).length) Slot.unset).toArray := ⟨_, rfl⟩
  have hfit : Fits P L := by
    subst hP hL
    refine ⟨fun i s hi => ?_, ?_⟩
    · rw [pget_eq] at hi
      cases hq : (lay as)[i]? with
      | none =>
        rw [List.getElem?_append_right (by simpa using hq), List.getElem?_replicate] at hi
        split at hi <;> simp at hi
      | some y =>
        have hlt := (List.getElem?_eq_some_iff.mp hq).1
        rw [List.getElem?_append_left (by simpa using hlt), List.getElem?_map, hq] at hi
        have this : y = s := by simpa using hi
        simp only [List.getElem?_toArray]
        rw [List.getElem?_append_left hlt, hq, this]
    · have := WFL.lay as (N.2.2.1 - (lay as).length)
      refine ⟨fun i hi => ?_, fun i v hi hv => ?_⟩
      · rw [List.getElem?_toArray] at hi
        obtain ⟨j, v, e1, e2, e3⟩ := this.1 i hi
        exact ⟨j, v, e1, by rw [List.getElem?_toArray]; exact e2, e3⟩
      · rw [List.getElem?_toArray] at hi ⊢
        exact this.2 i v hi hv
  obtain ⟨T', locs', k', n', r, G', g1, g2, g3, g4, g5, g6, g7, g8⟩ := h hw p e s m as.toArray below meth c s₁ [] L Bd.exec Bd.bytes hml0 Bd.returns (name_of_methodNamed Bd.named Bd.method).1 (findClass_of_methodNamed Bd.named) hZ hfit (by rw [hL]; simp; omega) X0 (by rw [e0]; exact hR) (Fr.nil _)
  obtain ⟨fs, hr, hrun, hended, hW, hsame⟩ := g1.leave (v := r) (fun u => g7 (by rw [← Bd.returns]; exact u))
  refine ⟨_, _, ?_, hrun, hended, _, _, rfl, ⟨g5, G', ?_, g6⟩, ⟨_, rfl⟩, hW, hsame.mono g2 g3⟩
  · have ef : entryFrame m as.toArray N.2.2.1 = mkF m 0 L [] := by
      rw [hL, ← args_lay]; rfl
    rw [ef]; exact g8 fs hr
  · exact g4
abbrev room_al (M N : Bdy) (W k n : Nat) : Prop := N.2.2.2.2.frames + 1 ≤ M.2.2.2.2.frames ∧ W + (N.2.2.1 + 11) + N.2.2.2.2.locals ≤ M.2.2.2.2.locals ∧ k + N.2.2.2.2.cells ≤ M.2.2.2.2.cells ∧ n + N.2.2.2.2.slots ≤ M.2.2.2.2.slots
abbrev room_ok (M N : Bdy) (W : Nat) : Prop := N.2.2.2.2.frames + 1 ≤ M.2.2.2.2.frames ∧ W + (N.2.2.1 + 11) + N.2.2.2.2.locals ≤ M.2.2.2.2.locals ∧ N.2.2.2.2.cells = 0 ∧ N.2.2.2.2.slots = 0
abbrev full_ok (M : Bdy) (k n : Nat) : Prop := k ≤ M.2.2.2.2.cells ∧ n ≤ M.2.2.2.2.slots
theorem room_ok.al (h : room_ok M N W) (f : full_ok M k n) : room_al M N W k n := ⟨h.1, h.2.1, by rw [h.2.2.1]; exact f.1, by rw [h.2.2.2]; exact f.2⟩
abbrev code_w (N : Bdy) : Prop := Jvm.Cond.code N.1 N.2.1 N.2.2.1 N.2.2.2.1 ∈ tables_1 ∧ Jvm.Cond.initialized N.1.cls ∈ tables_1 ∧ (N.1.cls ≠ "java/lang/invoke/MethodHandle" ∧ N.1.cls ≠ "java/lang/invoke/VarHandle")
def arity (N : Bdy) (na : Nat) : Prop := ∃ ps r, parseMethodDescriptor N.1.desc = some ⟨ps, r⟩ ∧ na = ps.length
theorem arity.len {na : Nat} (h : arity N na) (e : as.length = na) : ∀ sig, parseMethodDescriptor N.1.desc = some sig → as.length = sig.parameters.length := by
  obtain ⟨ps, r, h1, h2⟩ := h
  exact lenOf h1 (e.trans h2)
theorem after_call {v : Option Value} {p : Program} {e : Env} {s : State} {m : MethodId} {args : Array Value} {below : List Frame} {meth : Method} {c : Code} {T T0 : State} {locs : List Loc} {L : Array Slot} {QN : Option Value → AH → Prop} {Lc : List Loc}
    (hw : Ok C) (hx : p.tables.exec = Jvm.exec) (hby : c.code = M.2.1) (hml : c.maxLocals = M.2.2.1) (hret : meth.sig.returnType = M.2.2.2.1) (hnm : meth.name = M.1.name) (hown : s.vm.findClass M.1.cls = some m.cls) (hZ : C.2.1.Warmed39 s.vm) (hf : Fits P L) (hsz : L.size = M.2.2.1) (hF : Fr C.2.2.1 locs)
    (X : Stand p C.1 e M.2.2.2.2 s m args below meth c T (locs ++ Lc) (k + N.2.2.2.2.cells) (n + N.2.2.2.2.slots)) (hQ : Fr C.2.2.1 Lc ∧ ∃ G', Rep C.2.1 C.2.2.1 T.heap G' ∧ QN v G')
    (h : ∀ v G', QN v G' → Runs C M (k + N.2.2.2.2.cells) (n + N.2.2.2.2.slots) (pc + 3) P (v.toList ++ S') G' Q)
    (st : ∀ t, Steps p.tables e below (T.setTop (mkF m (pc + 3) L (v.toList ++ S'))) t → Steps p.tables e below (T0.setTop (mkF m pc L S)) t) :
    ∃ (T' : State) (locs' : List Loc) (k' n' : Nat) (r : Option Value) (G' : AH), Stand p C.1 e M.2.2.2.2 s m args below meth c T' locs' k' n' ∧ k' ≤ M.2.2.2.2.cells ∧ n' ≤ M.2.2.2.2.slots ∧ Rep C.2.1 C.2.2.1 T'.heap G' ∧ Fr C.2.2.1 locs' ∧ Q r G' ∧
      (M.2.2.2.1 = none → r = none) ∧
      ∀ fs : List Frame, (∀ (f : JFrame) (acts : List Action), f.method = m → f.locked = none → f.entered = [] → (doReturn e (T'.setTop f) acts r).1 = T'.setFrames fs) → Steps p.tables e below (T0.setTop (mkF m pc L S)) (T'.setFrames fs) := by
  obtain ⟨f1, G', f2, f3⟩ := hQ
  obtain ⟨T', locs', k', n', r, G'', g1, g2, g3, g4, g5, g6, g7, g8⟩ := h v G' f3 hw p e s m args below meth c T _ L hx hby hml hret hnm hown hZ hf hsz X f2 (Fr.app hF f1)
  exact ⟨T', locs', k', n', r, G'', g1, g2, g3, g4, g5, g6, g7, fun fs hr => st _ (g8 fs hr)⟩
theorem Runs.callS {QN : Option Value → AH → Prop} (d : DAt M pc (.invokestatic idx) 3 q) (wl : Jvm.Cond.methodLink M.1.cls idx N.1 ∈ tables_1) (wt : Jvm.Cond.static N.1 ∈ tables_1) (wc : code_w N) (ar : arity N as.length) (hr0 : room_ok M N W) (hfull : full_ok M k n) (hS : S = as.reverse ++ S') (hW : (S'.map fun v => v.category).sum = W)
    (hN : Pays C N as G QN) (h : ∀ v G', QN v G' → Runs C M k n q P (v.toList ++ S') G' Q) : Runs C M k n pc P S G Q := by
  intro hw p e s m args below meth c T locs L hx hby hml hret hnm hown hZ hf hsz X hR hF
  have hq := d.2
  subst hq hS
  have hr := hr0.al hfull
  obtain ⟨_, _, ⟨T1, L1, k1, n1⟩, -, X1, ⟨Lc, hQ, l1, y1, z1⟩, st⟩ := Jvm.LawKit.callS X hx (y := N.1) hown (mvT hZ (hw _ wl)) (mvT hZ (hw _ wt)) (mvT hZ (hw _ wc.2.1)) (mvT hZ (hw _ wc.1)) wc.2.2 (backOf (W := W) (Q := fun v h L => Fr C.2.2.1 L ∧ ∃ G', Rep C.2.1 C.2.2.1 h G' ∧ QN v G') (hN hw T.heap hR []) hZ (hw _ wc.1) (hw _ wc.2.1) hr.1 hr.2.1) (g := mkF m pc L (as.reverse ++ S')) rfl (by rw [hml]; exact hsz) (argsL := as) (rest := S') (ar.len rfl) rfl (by show 2 * 0 + _ ≤ _; omega) (hb hby d.1) (fun _ _ => ⟨rfl, rfl, hr.2.2.1, hr.2.2.2⟩)
  dsimp only [Pt.U, Pt.locs, Pt.cells, Pt.slots] at X1 l1 y1 z1 st hQ
  subst l1 y1 z1
  exact after_call hw hx hby hml hret hnm hown hZ hf hsz hF X1 hQ (by rw [hr0.2.2.1, hr0.2.2.2]; exact h) (fun t u => st t u)
theorem Runs.callV {QN : Option Value → AH → Prop} (d : DAt M pc (.invokevirtual idx) 3 q) (wl : Jvm.Cond.methodLink M.1.cls idx N.1 ∈ tables_1) (wd : Jvm.Cond.declares N.1 ∈ tables_1) (wi : Jvm.Cond.instanceMethod N.1 ∈ tables_1) (ws : Jvm.Cond.selects K.1 N.1 N.1 ∈ tables_1) (wc : code_w N) (ar : arity N as.length) (hr0 : room_ok M N W) (hfull : full_ok M k n) (hS : S = as.reverse ++ .ref a :: S') (hW : (S'.map fun v => v.category).sum = W)
    (hN : Pays C N (.ref a :: as) (top, (a, qq, ob) :: H) QN) (h : ∀ v G', QN v G' → Runs C M k n q P (v.toList ++ S') G' Q) : Runs C M k n pc P S (top, (a, qq, ob) :: H) Q := by
  intro hw p e s m args below meth c T locs L hx hby hml hret hnm hown hZ hf hsz X hR hF
  have hq := d.2
  subst hq hS
  have hr := hr0.al hfull
  obtain ⟨cB, kB, u1, -, u3⟩ := isOf hZ rfl hR.objs.2.2.1
  obtain ⟨_, _, ⟨T1, L1, k1, n1⟩, -, X1, ⟨Lc, hQ, l1, y1, z1⟩, st⟩ := X.virtualBack hx (y := N.1) (z := N.1) hown (mvT hZ (hw _ wl)) (mvT hZ (hw _ wd)) (notFace_of_selects (args := #[]) (mvT hZ (hw _ ws))) (mvT hZ (hw _ ws)) (mvT hZ (hw _ wi)) wc.2.2 (backOf (W := W) (Q := fun v h L => Fr C.2.2.1 L ∧ ∃ G', Rep C.2.1 C.2.2.1 h G' ∧ QN v G') (hN hw T.heap hR []) hZ (hw _ wc.1) (hw _ wc.2.1) hr.1 hr.2.1) u1 u3 (g := mkF m pc L (as.reverse ++ .ref a :: S')) rfl (by rw [hml]; exact hsz) (Steps.refl _) (argsL := as) (rest := S') (ar.len rfl) rfl (by show 2 * 0 + _ ≤ _; omega) (hb hby d.1) (fun _ _ => ⟨rfl, rfl, hr.2.2.1, hr.2.2.2⟩)
  dsimp only [Pt.U, Pt.locs, Pt.cells, Pt.slots] at X1 l1 y1 z1 st hQ
  subst l1 y1 z1
  exact after_call hw hx hby hml hret hnm hown hZ hf hsz hF X1 hQ (by rw [hr0.2.2.1, hr0.2.2.2]; exact h) (fun t u => st.trans u)
theorem Runs.callP {QN : Option Value → AH → Prop} (d : DAt M pc (.invokevirtual idx) 3 q) (wl : Jvm.Cond.methodLink M.1.cls idx N.1 ∈ tables_1) (wi : Jvm.Cond.instanceMethod N.1 ∈ tables_1) (wp : Jvm.Cond.privateMethod N.1 ∈ tables_1) (wK : N.1.cls = K.1) (wc : code_w N) (ar : arity N as.length) (hr0 : room_ok M N W) (hfull : full_ok M k n) (hS : S = as.reverse ++ .ref a :: S') (hW : (S'.map fun v => v.category).sum = W)
    (hN : Pays C N (.ref a :: as) (top, (a, qq, ob) :: H) QN) (h : ∀ v G', QN v G' → Runs C M k n q P (v.toList ++ S') G' Q) : Runs C M k n pc P S (top, (a, qq, ob) :: H) Q := by
  intro hw p e s m args below meth c T locs L hx hby hml hret hnm hown hZ hf hsz X hR hF
  have hq := d.2
  subst hq hS
  have hr := hr0.al hfull
  obtain ⟨cl, u1, u2⟩ := hR.objs.2.2.1.cell
  have hpr : s.PrivateAt N.1 := Cond.privateMethod_at (mvP hZ (hw _ wp) (args := #[]))
  obtain ⟨c2, k2, i1, i2, i3, i4, -⟩ := Cond.instantiable_spec (mvT (args := args) hZ (hw _ kI))
  have hsel : (Jvm.Cond.selects N.1.cls N.1 N.1).before args s = true := Stand.selects_self_of_private (by rw [wK]; exact i1) i2 (by simp at i4; exact i4.1) hpr (mvT hZ (hw _ wi)) wc.2.2
  obtain ⟨_, _, ⟨T1, L1, k1, n1⟩, -, X1, ⟨Lc, hQ, l1, y1, z1⟩, st⟩ := X.privateBack hx (y := N.1) hown (mvT hZ (hw _ wl)) (mvT hZ (hw _ wi)) hsel hpr (mvT hZ (hw _ wc.1)) wc.2.2 (backOf (W := W) (Q := fun v h L => Fr C.2.2.1 L ∧ ∃ G', Rep C.2.1 C.2.2.1 h G' ∧ QN v G') (hN hw T.heap hR []) hZ (hw _ wc.1) (hw _ wc.2.1) hr.1 hr.2.1) (g := mkF m pc L (as.reverse ++ .ref a :: S')) rfl (by rw [hml]; exact hsz) (Steps.refl _) (a := a) u1 u2 (argsL := as) (rest := S') (ar.len rfl) rfl (by show 2 * 0 + _ ≤ _; omega) (hb hby d.1) (fun _ _ => ⟨rfl, rfl, hr.2.2.1, hr.2.2.2⟩)
  dsimp only [Pt.U, Pt.locs, Pt.cells, Pt.slots] at X1 l1 y1 z1 st hQ
  subst l1 y1 z1
  exact after_call hw hx hby hml hret hnm hown hZ hf hsz hF X1 hQ (by rw [hr0.2.2.1, hr0.2.2.2]; exact h) (fun t u => st.trans u)
theorem Runs.callI {QN : Option Value → AH → Prop} (d : DAt M pc (.invokespecial idx) 3 q) (hi : N.1.name = "<init>") (hn : N.2.2.2.1 = none) (wl : Jvm.Cond.methodLink M.1.cls idx N.1 ∈ tables_1) (wi : Jvm.Cond.instanceMethod N.1 ∈ tables_1) (wc : code_w N) (ar : arity N as.length) (hr : room_al M N W k n) (hS : S = as.reverse ++ .ref a :: S') (hW : (S'.map fun v => v.category).sum = W) {k' n' : Nat} (hk' : k + N.2.2.2.2.cells = k') (hn' : n + N.2.2.2.2.slots = n')
    (hN : Pays C N (.ref a :: as) G QN) (h : ∀ v G', QN v G' → Runs C M k' n' q P (v.toList ++ S') G' Q) : Runs C M k n pc P S G Q := by
  intro hw p e s m args below meth c T locs L hx hby hml hret hnm hown hZ hf hsz X hR hF
  have hq := d.2
  subst hq hS hk' hn'
  have wc1 := hw _ wc.1
  obtain ⟨_, _, ⟨T1, L1, k1, n1⟩, -, X1, ⟨Lc, hQ, l1, y1, z1⟩, st⟩ := X.specialBack hx (y := N.1) hi hown (mvT hZ (hw _ wl)) (mvT hZ (hw _ wi)) (bytes := N.2.1) (maxL := N.2.2.1) (by have := mvT (args := args) hZ wc1; rw [hn] at this; exact this) wc.2.2 (backOf (W := W) (Q := fun v h L => Fr C.2.2.1 L ∧ ∃ G', Rep C.2.1 C.2.2.1 h G' ∧ QN v G') (hN hw T.heap hR []) hZ wc1 (hw _ wc.2.1) hr.1 hr.2.1) (g := mkF m pc L (as.reverse ++ .ref a :: S')) rfl (by rw [hml]; exact hsz) (Steps.refl _) (a := a) (argsL := as) (rest := S') (ar.len rfl) rfl (by show 2 * 0 + _ ≤ _; omega) (hb hby d.1) (fun _ _ => ⟨rfl, rfl, hr.2.2.1, hr.2.2.2⟩)
  dsimp only [Pt.U, Pt.locs, Pt.cells, Pt.slots] at X1 l1 y1 z1 st hQ
  subst l1 y1 z1
  exact after_call hw hx hby hml hret hnm hown hZ hf hsz hF X1 hQ h (fun t u => st.trans u)
/-- the plain form of a contract: one answer, one heap -/
abbrev Ans (r : Option Value) (G1 : AH) : Option Value → AH → Prop := fun v G' => v = r ∧ G' = G1
theorem ans1 {x : Value} {k n : Nat} (h : Runs C M k n pc P (x :: S) G1 Q) : ∀ v G', Ans (some x) G1 v G' → Runs C M k n pc P (v.toList ++ S) G' Q := by
  rintro v G' ⟨rfl, rfl⟩; exact h
theorem ans0 {k n : Nat} (h : Runs C M k n pc P S G1 Q) : ∀ v G', Ans none G1 v G' → Runs C M k n pc P (v.toList ++ S) G' Q := by
  rintro v G' ⟨rfl, rfl⟩; exact h
end Calls
theorem pnK : plainName "LogicalReplicator" = true := by first | (simp [plainName, overriddenIn]; done) | decide +kernel
theorem pnL : plainName "LogicalReplicatorL2" = true := by first | (simp [plainName, overriddenIn]; done) | decide +kernel
theorem w0 : (Jvm.Cond.classLink "LogicalReplicatorL2" (7 : Nat) "LogicalReplicator") ∈ tables_1 := mem1 0 rfl
theorem w3 : (Jvm.Cond.methodLink "LogicalReplicatorL2" (9 : Nat) ({ cls := "LogicalReplicator", name := "<init>", desc := "(IIII)V" } : Jvm.MethodName)) ∈ tables_1 := mem1 3 rfl
theorem w4 : (Jvm.Cond.instanceMethod ({ cls := "LogicalReplicator", name := "<init>", desc := "(IIII)V" } : Jvm.MethodName)) ∈ tables_1 := mem1 4 rfl
theorem w6 : (Jvm.Cond.methodLink "LogicalReplicator" (1 : Nat) ({ cls := "java/lang/Object", name := "<init>", desc := "()V" } : Jvm.MethodName)) ∈ tables_1 := mem1 6 rfl
theorem w7 : (Jvm.Cond.instanceMethod ({ cls := "java/lang/Object", name := "<init>", desc := "()V" } : Jvm.MethodName)) ∈ tables_1 := mem1 7 rfl
theorem w8 : (Jvm.Cond.code ({ cls := "java/lang/Object", name := "<init>", desc := "()V" } : Jvm.MethodName) object_method_1_code (1 : Nat) (Option.none : Option Jvm.ClassFile.FieldType)) ∈ tables_1 := mem1 8 rfl
theorem w9 : (Jvm.Cond.arrayClass Jvm.ClassFile.FieldType.int) ∈ tables_1 := mem1 9 rfl
theorem w10 : (Jvm.Cond.fieldLink "LogicalReplicator" (7 : Nat) "LogicalReplicator" "recKind" "[I") ∈ tables_1 := mem1 10 rfl
theorem w11 : (Jvm.Cond.lays "LogicalReplicator" "LogicalReplicator" "recKind" "[I") ∈ tables_1 := mem1 11 rfl
theorem w12 : (Jvm.Cond.fieldLink "LogicalReplicator" (13 : Nat) "LogicalReplicator" "recSlot" "[I") ∈ tables_1 := mem1 12 rfl
theorem w13 : (Jvm.Cond.lays "LogicalReplicator" "LogicalReplicator" "recSlot" "[I") ∈ tables_1 := mem1 13 rfl
theorem w14 : (Jvm.Cond.fieldLink "LogicalReplicator" (16 : Nat) "LogicalReplicator" "recKey" "[I") ∈ tables_1 := mem1 14 rfl
theorem w15 : (Jvm.Cond.lays "LogicalReplicator" "LogicalReplicator" "recKey" "[I") ∈ tables_1 := mem1 15 rfl
theorem w16 : (Jvm.Cond.fieldLink "LogicalReplicator" (19 : Nat) "LogicalReplicator" "recVal" "[I") ∈ tables_1 := mem1 16 rfl
theorem w17 : (Jvm.Cond.lays "LogicalReplicator" "LogicalReplicator" "recVal" "[I") ∈ tables_1 := mem1 17 rfl
theorem w18 : (Jvm.Cond.fieldLink "LogicalReplicator" (22 : Nat) "LogicalReplicator" "recBegin" "[I") ∈ tables_1 := mem1 18 rfl
theorem w19 : (Jvm.Cond.lays "LogicalReplicator" "LogicalReplicator" "recBegin" "[I") ∈ tables_1 := mem1 19 rfl
theorem w20 : (Jvm.Cond.arrayClass Jvm.ClassFile.FieldType.boolean) ∈ tables_1 := mem1 20 rfl
theorem w21 : (Jvm.Cond.fieldLink "LogicalReplicator" (25 : Nat) "LogicalReplicator" "slotOpen" "[Z") ∈ tables_1 := mem1 21 rfl
theorem w22 : (Jvm.Cond.lays "LogicalReplicator" "LogicalReplicator" "slotOpen" "[Z") ∈ tables_1 := mem1 22 rfl
theorem w23 : (Jvm.Cond.fieldLink "LogicalReplicator" (29 : Nat) "LogicalReplicator" "slotBegin" "[I") ∈ tables_1 := mem1 23 rfl
theorem w24 : (Jvm.Cond.lays "LogicalReplicator" "LogicalReplicator" "slotBegin" "[I") ∈ tables_1 := mem1 24 rfl
theorem w25 : (Jvm.Cond.fieldLink "LogicalReplicator" (32 : Nat) "LogicalReplicator" "pubHas" "[Z") ∈ tables_1 := mem1 25 rfl
theorem w26 : (Jvm.Cond.lays "LogicalReplicator" "LogicalReplicator" "pubHas" "[Z") ∈ tables_1 := mem1 26 rfl
theorem w27 : (Jvm.Cond.fieldLink "LogicalReplicator" (35 : Nat) "LogicalReplicator" "pubVal" "[I") ∈ tables_1 := mem1 27 rfl
theorem w28 : (Jvm.Cond.lays "LogicalReplicator" "LogicalReplicator" "pubVal" "[I") ∈ tables_1 := mem1 28 rfl
theorem w29 : (Jvm.Cond.fieldLink "LogicalReplicator" (38 : Nat) "LogicalReplicator" "subHas" "[Z") ∈ tables_1 := mem1 29 rfl
theorem w30 : (Jvm.Cond.lays "LogicalReplicator" "LogicalReplicator" "subHas" "[Z") ∈ tables_1 := mem1 30 rfl
theorem w31 : (Jvm.Cond.fieldLink "LogicalReplicator" (41 : Nat) "LogicalReplicator" "subVal" "[I") ∈ tables_1 := mem1 31 rfl
theorem w32 : (Jvm.Cond.lays "LogicalReplicator" "LogicalReplicator" "subVal" "[I") ∈ tables_1 := mem1 32 rfl
theorem w33 : (Jvm.Cond.fieldLink "LogicalReplicator" (44 : Nat) "LogicalReplicator" "pendKind" "[I") ∈ tables_1 := mem1 33 rfl
theorem w34 : (Jvm.Cond.lays "LogicalReplicator" "LogicalReplicator" "pendKind" "[I") ∈ tables_1 := mem1 34 rfl
theorem w35 : (Jvm.Cond.fieldLink "LogicalReplicator" (47 : Nat) "LogicalReplicator" "pendVal" "[I") ∈ tables_1 := mem1 35 rfl
theorem w36 : (Jvm.Cond.lays "LogicalReplicator" "LogicalReplicator" "pendVal" "[I") ∈ tables_1 := mem1 36 rfl
theorem w37 : (Jvm.Cond.fieldLink "LogicalReplicator" (50 : Nat) "LogicalReplicator" "qKind" "[I") ∈ tables_1 := mem1 37 rfl
theorem w38 : (Jvm.Cond.lays "LogicalReplicator" "LogicalReplicator" "qKind" "[I") ∈ tables_1 := mem1 38 rfl
theorem w39 : (Jvm.Cond.fieldLink "LogicalReplicator" (53 : Nat) "LogicalReplicator" "qKey" "[I") ∈ tables_1 := mem1 39 rfl
theorem w40 : (Jvm.Cond.lays "LogicalReplicator" "LogicalReplicator" "qKey" "[I") ∈ tables_1 := mem1 40 rfl
theorem w41 : (Jvm.Cond.fieldLink "LogicalReplicator" (56 : Nat) "LogicalReplicator" "qVal" "[I") ∈ tables_1 := mem1 41 rfl
theorem w42 : (Jvm.Cond.lays "LogicalReplicator" "LogicalReplicator" "qVal" "[I") ∈ tables_1 := mem1 42 rfl
theorem w43 : (Jvm.Cond.fieldLink "LogicalReplicator" (59 : Nat) "LogicalReplicator" "qPos" "[I") ∈ tables_1 := mem1 43 rfl
theorem w44 : (Jvm.Cond.lays "LogicalReplicator" "LogicalReplicator" "qPos" "[I") ∈ tables_1 := mem1 44 rfl
theorem w45 : (Jvm.Cond.methodLink "LogicalReplicator" (62 : Nat) ({ cls := "LogicalReplicator", name := "clamp", desc := "(III)I" } : Jvm.MethodName)) ∈ tables_1 := mem1 45 rfl
theorem w46 : (Jvm.Cond.instanceMethod ({ cls := "LogicalReplicator", name := "clamp", desc := "(III)I" } : Jvm.MethodName)) ∈ tables_1 := mem1 46 rfl
theorem w47 : (Jvm.Cond.privateMethod ({ cls := "LogicalReplicator", name := "clamp", desc := "(III)I" } : Jvm.MethodName)) ∈ tables_1 := mem1 47 rfl
theorem w49 : (Jvm.Cond.fieldLink "LogicalReplicator" (66 : Nat) "LogicalReplicator" "nKeys" "I") ∈ tables_1 := mem1 49 rfl
theorem w50 : (Jvm.Cond.lays "LogicalReplicator" "LogicalReplicator" "nKeys" "I") ∈ tables_1 := mem1 50 rfl
theorem w51 : (Jvm.Cond.fieldLink "LogicalReplicator" (70 : Nat) "LogicalReplicator" "nSlots" "I") ∈ tables_1 := mem1 51 rfl
theorem w52 : (Jvm.Cond.lays "LogicalReplicator" "LogicalReplicator" "nSlots" "I") ∈ tables_1 := mem1 52 rfl
theorem w53 : (Jvm.Cond.fieldLink "LogicalReplicator" (73 : Nat) "LogicalReplicator" "logCap" "I") ∈ tables_1 := mem1 53 rfl
theorem w54 : (Jvm.Cond.lays "LogicalReplicator" "LogicalReplicator" "logCap" "I") ∈ tables_1 := mem1 54 rfl
theorem w55 : (Jvm.Cond.fieldLink "LogicalReplicator" (76 : Nat) "LogicalReplicator" "memCap" "I") ∈ tables_1 := mem1 55 rfl
theorem w56 : (Jvm.Cond.lays "LogicalReplicator" "LogicalReplicator" "memCap" "I") ∈ tables_1 := mem1 56 rfl
theorem w57 : (Jvm.Cond.fieldLink "LogicalReplicator" (79 : Nat) "LogicalReplicator" "length" "I") ∈ tables_1 := mem1 57 rfl
theorem w58 : (Jvm.Cond.lays "LogicalReplicator" "LogicalReplicator" "length" "I") ∈ tables_1 := mem1 58 rfl
theorem w59 : (Jvm.Cond.fieldLink "LogicalReplicator" (82 : Nat) "LogicalReplicator" "emittedPos" "I") ∈ tables_1 := mem1 59 rfl
theorem w60 : (Jvm.Cond.lays "LogicalReplicator" "LogicalReplicator" "emittedPos" "I") ∈ tables_1 := mem1 60 rfl
theorem w61 : (Jvm.Cond.fieldLink "LogicalReplicator" (85 : Nat) "LogicalReplicator" "appliedPos" "I") ∈ tables_1 := mem1 61 rfl
theorem w62 : (Jvm.Cond.lays "LogicalReplicator" "LogicalReplicator" "appliedPos" "I") ∈ tables_1 := mem1 62 rfl
theorem w63 : (Jvm.Cond.fieldLink "LogicalReplicator" (88 : Nat) "LogicalReplicator" "confirmedPos" "I") ∈ tables_1 := mem1 63 rfl
theorem w64 : (Jvm.Cond.lays "LogicalReplicator" "LogicalReplicator" "confirmedPos" "I") ∈ tables_1 := mem1 64 rfl
theorem w65 : (Jvm.Cond.fieldLink "LogicalReplicator" (91 : Nat) "LogicalReplicator" "qHead" "I") ∈ tables_1 := mem1 65 rfl
theorem w66 : (Jvm.Cond.lays "LogicalReplicator" "LogicalReplicator" "qHead" "I") ∈ tables_1 := mem1 66 rfl
theorem w67 : (Jvm.Cond.fieldLink "LogicalReplicator" (94 : Nat) "LogicalReplicator" "qCount" "I") ∈ tables_1 := mem1 67 rfl
theorem w68 : (Jvm.Cond.lays "LogicalReplicator" "LogicalReplicator" "qCount" "I") ∈ tables_1 := mem1 68 rfl
theorem w69 : (Jvm.Cond.methodLink "LogicalReplicatorL2" (12 : Nat) ({ cls := "LogicalReplicator", name := "begin", desc := "(I)I" } : Jvm.MethodName)) ∈ tables_1 := mem1 69 rfl
theorem w70 : (Jvm.Cond.declares ({ cls := "LogicalReplicator", name := "begin", desc := "(I)I" } : Jvm.MethodName)) ∈ tables_1 := mem1 70 rfl
theorem w71 : (Jvm.Cond.instanceMethod ({ cls := "LogicalReplicator", name := "begin", desc := "(I)I" } : Jvm.MethodName)) ∈ tables_1 := mem1 71 rfl
theorem w72 : (Jvm.Cond.selects "LogicalReplicator" ({ cls := "LogicalReplicator", name := "begin", desc := "(I)I" } : Jvm.MethodName) ({ cls := "LogicalReplicator", name := "begin", desc := "(I)I" } : Jvm.MethodName)) ∈ tables_1 := mem1 72 rfl
theorem w74 : (Jvm.Cond.methodLink "LogicalReplicator" (97 : Nat) ({ cls := "LogicalReplicator", name := "validSlot", desc := "(I)Z" } : Jvm.MethodName)) ∈ tables_1 := mem1 74 rfl
theorem w75 : (Jvm.Cond.instanceMethod ({ cls := "LogicalReplicator", name := "validSlot", desc := "(I)Z" } : Jvm.MethodName)) ∈ tables_1 := mem1 75 rfl
theorem w76 : (Jvm.Cond.privateMethod ({ cls := "LogicalReplicator", name := "validSlot", desc := "(I)Z" } : Jvm.MethodName)) ∈ tables_1 := mem1 76 rfl
theorem w78 : (Jvm.Cond.methodLink "LogicalReplicator" (101 : Nat) ({ cls := "LogicalReplicator", name := "logFull", desc := "()Z" } : Jvm.MethodName)) ∈ tables_1 := mem1 78 rfl
theorem w79 : (Jvm.Cond.instanceMethod ({ cls := "LogicalReplicator", name := "logFull", desc := "()Z" } : Jvm.MethodName)) ∈ tables_1 := mem1 79 rfl
theorem w80 : (Jvm.Cond.privateMethod ({ cls := "LogicalReplicator", name := "logFull", desc := "()Z" } : Jvm.MethodName)) ∈ tables_1 := mem1 80 rfl
theorem w82 : (Jvm.Cond.methodLink "LogicalReplicator" (105 : Nat) ({ cls := "LogicalReplicator", name := "append", desc := "(IIII)I" } : Jvm.MethodName)) ∈ tables_1 := mem1 82 rfl
theorem w83 : (Jvm.Cond.instanceMethod ({ cls := "LogicalReplicator", name := "append", desc := "(IIII)I" } : Jvm.MethodName)) ∈ tables_1 := mem1 83 rfl
theorem w84 : (Jvm.Cond.privateMethod ({ cls := "LogicalReplicator", name := "append", desc := "(IIII)I" } : Jvm.MethodName)) ∈ tables_1 := mem1 84 rfl
theorem w86 : (Jvm.Cond.methodLink "LogicalReplicatorL2" (16 : Nat) ({ cls := "LogicalReplicator", name := "put", desc := "(III)I" } : Jvm.MethodName)) ∈ tables_1 := mem1 86 rfl
theorem w87 : (Jvm.Cond.declares ({ cls := "LogicalReplicator", name := "put", desc := "(III)I" } : Jvm.MethodName)) ∈ tables_1 := mem1 87 rfl
theorem w88 : (Jvm.Cond.instanceMethod ({ cls := "LogicalReplicator", name := "put", desc := "(III)I" } : Jvm.MethodName)) ∈ tables_1 := mem1 88 rfl
theorem w89 : (Jvm.Cond.selects "LogicalReplicator" ({ cls := "LogicalReplicator", name := "put", desc := "(III)I" } : Jvm.MethodName) ({ cls := "LogicalReplicator", name := "put", desc := "(III)I" } : Jvm.MethodName)) ∈ tables_1 := mem1 89 rfl
theorem w91 : (Jvm.Cond.methodLink "LogicalReplicator" (109 : Nat) ({ cls := "LogicalReplicator", name := "write", desc := "(IIII)I" } : Jvm.MethodName)) ∈ tables_1 := mem1 91 rfl
theorem w92 : (Jvm.Cond.instanceMethod ({ cls := "LogicalReplicator", name := "write", desc := "(IIII)I" } : Jvm.MethodName)) ∈ tables_1 := mem1 92 rfl
theorem w93 : (Jvm.Cond.privateMethod ({ cls := "LogicalReplicator", name := "write", desc := "(IIII)I" } : Jvm.MethodName)) ∈ tables_1 := mem1 93 rfl
theorem w95 : (Jvm.Cond.methodLink "LogicalReplicator" (112 : Nat) ({ cls := "LogicalReplicator", name := "checkOpenSlot", desc := "(I)I" } : Jvm.MethodName)) ∈ tables_1 := mem1 95 rfl
theorem w96 : (Jvm.Cond.instanceMethod ({ cls := "LogicalReplicator", name := "checkOpenSlot", desc := "(I)I" } : Jvm.MethodName)) ∈ tables_1 := mem1 96 rfl
theorem w97 : (Jvm.Cond.privateMethod ({ cls := "LogicalReplicator", name := "checkOpenSlot", desc := "(I)I" } : Jvm.MethodName)) ∈ tables_1 := mem1 97 rfl
theorem w99 : (Jvm.Cond.methodLink "LogicalReplicator" (116 : Nat) ({ cls := "LogicalReplicator", name := "validKey", desc := "(I)Z" } : Jvm.MethodName)) ∈ tables_1 := mem1 99 rfl
theorem w100 : (Jvm.Cond.instanceMethod ({ cls := "LogicalReplicator", name := "validKey", desc := "(I)Z" } : Jvm.MethodName)) ∈ tables_1 := mem1 100 rfl
theorem w101 : (Jvm.Cond.privateMethod ({ cls := "LogicalReplicator", name := "validKey", desc := "(I)Z" } : Jvm.MethodName)) ∈ tables_1 := mem1 101 rfl
theorem w103 : (Jvm.Cond.methodLink "LogicalReplicatorL2" (20 : Nat) ({ cls := "LogicalReplicator", name := "del", desc := "(II)I" } : Jvm.MethodName)) ∈ tables_1 := mem1 103 rfl
theorem w104 : (Jvm.Cond.declares ({ cls := "LogicalReplicator", name := "del", desc := "(II)I" } : Jvm.MethodName)) ∈ tables_1 := mem1 104 rfl
theorem w105 : (Jvm.Cond.instanceMethod ({ cls := "LogicalReplicator", name := "del", desc := "(II)I" } : Jvm.MethodName)) ∈ tables_1 := mem1 105 rfl
theorem w106 : (Jvm.Cond.selects "LogicalReplicator" ({ cls := "LogicalReplicator", name := "del", desc := "(II)I" } : Jvm.MethodName) ({ cls := "LogicalReplicator", name := "del", desc := "(II)I" } : Jvm.MethodName)) ∈ tables_1 := mem1 106 rfl
theorem w108 : (Jvm.Cond.methodLink "LogicalReplicatorL2" (24 : Nat) ({ cls := "LogicalReplicator", name := "pubRow", desc := "(I)J" } : Jvm.MethodName)) ∈ tables_1 := mem1 108 rfl
theorem w109 : (Jvm.Cond.declares ({ cls := "LogicalReplicator", name := "pubRow", desc := "(I)J" } : Jvm.MethodName)) ∈ tables_1 := mem1 109 rfl
theorem w110 : (Jvm.Cond.instanceMethod ({ cls := "LogicalReplicator", name := "pubRow", desc := "(I)J" } : Jvm.MethodName)) ∈ tables_1 := mem1 110 rfl
theorem w111 : (Jvm.Cond.selects "LogicalReplicator" ({ cls := "LogicalReplicator", name := "pubRow", desc := "(I)J" } : Jvm.MethodName) ({ cls := "LogicalReplicator", name := "pubRow", desc := "(I)J" } : Jvm.MethodName)) ∈ tables_1 := mem1 111 rfl
theorem w113 : (Jvm.Cond.constantLong "LogicalReplicator" (146 : Nat) (4294967296 : Int64)) ∈ tables_1 := mem1 113 rfl
theorem w114 : (Jvm.Cond.methodLink "LogicalReplicatorL2" (28 : Nat) ({ cls := "LogicalReplicator", name := "commit", desc := "(I)I" } : Jvm.MethodName)) ∈ tables_1 := mem1 114 rfl
theorem w115 : (Jvm.Cond.declares ({ cls := "LogicalReplicator", name := "commit", desc := "(I)I" } : Jvm.MethodName)) ∈ tables_1 := mem1 115 rfl
theorem w116 : (Jvm.Cond.instanceMethod ({ cls := "LogicalReplicator", name := "commit", desc := "(I)I" } : Jvm.MethodName)) ∈ tables_1 := mem1 116 rfl
theorem w117 : (Jvm.Cond.selects "LogicalReplicator" ({ cls := "LogicalReplicator", name := "commit", desc := "(I)I" } : Jvm.MethodName) ({ cls := "LogicalReplicator", name := "commit", desc := "(I)I" } : Jvm.MethodName)) ∈ tables_1 := mem1 117 rfl
theorem w119 : (Jvm.Cond.methodLink "LogicalReplicator" (119 : Nat) ({ cls := "LogicalReplicator", name := "applyToPublisher", desc := "(III)V" } : Jvm.MethodName)) ∈ tables_1 := mem1 119 rfl
theorem w120 : (Jvm.Cond.instanceMethod ({ cls := "LogicalReplicator", name := "applyToPublisher", desc := "(III)V" } : Jvm.MethodName)) ∈ tables_1 := mem1 120 rfl
theorem w121 : (Jvm.Cond.privateMethod ({ cls := "LogicalReplicator", name := "applyToPublisher", desc := "(III)V" } : Jvm.MethodName)) ∈ tables_1 := mem1 121 rfl
theorem w123 : (Jvm.Cond.methodLink "LogicalReplicatorL2" (31 : Nat) ({ cls := "LogicalReplicator", name := "info", desc := "(I)I" } : Jvm.MethodName)) ∈ tables_1 := mem1 123 rfl
theorem w124 : (Jvm.Cond.declares ({ cls := "LogicalReplicator", name := "info", desc := "(I)I" } : Jvm.MethodName)) ∈ tables_1 := mem1 124 rfl
theorem w125 : (Jvm.Cond.instanceMethod ({ cls := "LogicalReplicator", name := "info", desc := "(I)I" } : Jvm.MethodName)) ∈ tables_1 := mem1 125 rfl
theorem w126 : (Jvm.Cond.selects "LogicalReplicator" ({ cls := "LogicalReplicator", name := "info", desc := "(I)I" } : Jvm.MethodName) ({ cls := "LogicalReplicator", name := "info", desc := "(I)I" } : Jvm.MethodName)) ∈ tables_1 := mem1 126 rfl
theorem w128 : (Jvm.Cond.methodLink "LogicalReplicator" (157 : Nat) ({ cls := "LogicalReplicator", name := "countPubRows", desc := "()I" } : Jvm.MethodName)) ∈ tables_1 := mem1 128 rfl
theorem w129 : (Jvm.Cond.instanceMethod ({ cls := "LogicalReplicator", name := "countPubRows", desc := "()I" } : Jvm.MethodName)) ∈ tables_1 := mem1 129 rfl
theorem w130 : (Jvm.Cond.privateMethod ({ cls := "LogicalReplicator", name := "countPubRows", desc := "()I" } : Jvm.MethodName)) ∈ tables_1 := mem1 130 rfl
theorem w132 : (Jvm.Cond.methodLink "LogicalReplicator" (153 : Nat) ({ cls := "LogicalReplicator", name := "countOpen", desc := "()I" } : Jvm.MethodName)) ∈ tables_1 := mem1 132 rfl
theorem w133 : (Jvm.Cond.instanceMethod ({ cls := "LogicalReplicator", name := "countOpen", desc := "()I" } : Jvm.MethodName)) ∈ tables_1 := mem1 133 rfl
theorem w134 : (Jvm.Cond.privateMethod ({ cls := "LogicalReplicator", name := "countOpen", desc := "()I" } : Jvm.MethodName)) ∈ tables_1 := mem1 134 rfl
theorem w136 : (Jvm.Cond.constantLong "LogicalReplicatorL2" (34 : Nat) (4294967296 : Int64)) ∈ tables_1 := mem1 136 rfl
theorem fS_0 : K.2.1[0]? = some ("nKeys", "I") := rfl
theorem fS_1 : K.2.1[1]? = some ("nSlots", "I") := rfl
theorem fS_2 : K.2.1[2]? = some ("logCap", "I") := rfl
theorem fS_3 : K.2.1[3]? = some ("memCap", "I") := rfl
theorem fS_4 : K.2.1[4]? = some ("length", "I") := rfl
theorem fS_5 : K.2.1[5]? = some ("emittedPos", "I") := rfl
theorem fS_6 : K.2.1[6]? = some ("appliedPos", "I") := rfl
theorem fS_7 : K.2.1[7]? = some ("confirmedPos", "I") := rfl
theorem fS_8 : K.2.1[8]? = some ("qHead", "I") := rfl
theorem fS_9 : K.2.1[9]? = some ("qCount", "I") := rfl
theorem fA_0 : K.2.2[0]? = some ("recKind", .int, (129 : Int32)) := rfl
theorem fA_1 : K.2.2[1]? = some ("recSlot", .int, (129 : Int32)) := rfl
theorem fA_2 : K.2.2[2]? = some ("recKey", .int, (129 : Int32)) := rfl
theorem fA_3 : K.2.2[3]? = some ("recVal", .int, (129 : Int32)) := rfl
theorem fA_4 : K.2.2[4]? = some ("recBegin", .int, (129 : Int32)) := rfl
theorem fA_5 : K.2.2[5]? = some ("slotOpen", .boolean, (8 : Int32)) := rfl
theorem fA_6 : K.2.2[6]? = some ("slotBegin", .int, (8 : Int32)) := rfl
theorem fA_7 : K.2.2[7]? = some ("pubHas", .boolean, (32 : Int32)) := rfl
theorem fA_8 : K.2.2[8]? = some ("pubVal", .int, (32 : Int32)) := rfl
theorem fA_9 : K.2.2[9]? = some ("subHas", .boolean, (32 : Int32)) := rfl
theorem fA_10 : K.2.2[10]? = some ("subVal", .int, (32 : Int32)) := rfl
theorem fA_11 : K.2.2[11]? = some ("pendKind", .int, (32 : Int32)) := rfl
theorem fA_12 : K.2.2[12]? = some ("pendVal", .int, (32 : Int32)) := rfl
theorem fA_13 : K.2.2[13]? = some ("qKind", .int, (128 : Int32)) := rfl
theorem fA_14 : K.2.2[14]? = some ("qKey", .int, (128 : Int32)) := rfl
theorem fA_15 : K.2.2[15]? = some ("qVal", .int, (128 : Int32)) := rfl
theorem fA_16 : K.2.2[16]? = some ("qPos", .int, (128 : Int32)) := rfl
theorem cb_m4 : (Int8.ofInt (-4)).toInt32 = (-4 : Int32) := by decide
theorem cb_m3 : (Int8.ofInt (-3)).toInt32 = (-3 : Int32) := by decide
theorem cb_m2 : (Int8.ofInt (-2)).toInt32 = (-2 : Int32) := by decide
theorem cb_6 : (Int8.ofInt 6).toInt32 = (6 : Int32) := by decide
theorem cb_8 : (Int8.ofInt 8).toInt32 = (8 : Int32) := by decide
theorem cb_16 : (Int8.ofInt 16).toInt32 = (16 : Int32) := by decide
theorem cb_32 : (Int8.ofInt 32).toInt32 = (32 : Int32) := by decide
theorem ci_m1 : Int32.ofInt (-1) = (-1 : Int32) := by decide
theorem ci_0 : Int32.ofInt 0 = (0 : Int32) := by decide
theorem ci_1 : Int32.ofInt 1 = (1 : Int32) := by decide
theorem ci_2 : Int32.ofInt 2 = (2 : Int32) := by decide
theorem ci_3 : Int32.ofInt 3 = (3 : Int32) := by decide
theorem ci_4 : Int32.ofInt 4 = (4 : Int32) := by decide
theorem cs_128 : (Int16.ofInt 128).toInt32 = (128 : Int32) := by decide
theorem cs_129 : (Int16.ofInt 129).toInt32 = (129 : Int32) := by decide
def B2 : Bdy := ((⟨"LogicalReplicator", "clamp", "(III)I"⟩ : MethodName), prog_1_method_2_code, 4, (some .int), ({ frames := 0, cells := 0, slots := 0, locals := 0 } : Room))
theorem d2_0 : DAt B2 0 (.iload_n 1) 1 1 := ⟨by decide +kernel, rfl⟩
theorem d2_1 : DAt B2 1 (.iload_n 2) 1 2 := ⟨by decide +kernel, rfl⟩
theorem d2_2 : DAt B2 2 (.if_icmp .ge 5) 3 5 := ⟨by decide +kernel, rfl⟩
theorem d2_5 : DAt B2 5 (.iload_n 2) 1 6 := ⟨by decide +kernel, rfl⟩
theorem d2_6 : DAt B2 6 (.ireturn) 1 7 := ⟨by decide +kernel, rfl⟩
theorem d2_7 : DAt B2 7 (.iload_n 1) 1 8 := ⟨by decide +kernel, rfl⟩
theorem d2_8 : DAt B2 8 (.iload_n 3) 1 9 := ⟨by decide +kernel, rfl⟩
theorem d2_9 : DAt B2 9 (.if_icmp .le 5) 3 12 := ⟨by decide +kernel, rfl⟩
theorem d2_12 : DAt B2 12 (.iload_n 3) 1 13 := ⟨by decide +kernel, rfl⟩
theorem d2_13 : DAt B2 13 (.ireturn) 1 14 := ⟨by decide +kernel, rfl⟩
theorem d2_14 : DAt B2 14 (.iload_n 1) 1 15 := ⟨by decide +kernel, rfl⟩
theorem d2_15 : DAt B2 15 (.ireturn) 1 16 := ⟨by decide +kernel, rfl⟩
def B1 : Bdy := ((⟨"LogicalReplicator", "<init>", "(IIII)V"⟩ : MethodName), prog_1_method_1_code, 5, none, ({ frames := 1, cells := 17, slots := 1365, locals := 16 } : Room))
theorem d1_0 : DAt B1 0 (.aload_n 0) 1 1 := ⟨by decide +kernel, rfl⟩
theorem d1_1 : DAt B1 1 (.invokespecial 1) 3 4 := ⟨by decide +kernel, rfl⟩
theorem d1_4 : DAt B1 4 (.aload_n 0) 1 5 := ⟨by decide +kernel, rfl⟩
theorem d1_5 : DAt B1 5 (.sipush 129) 3 8 := ⟨by decide +kernel, rfl⟩
theorem d1_8 : DAt B1 8 (.newarray .int) 2 10 := ⟨by decide +kernel, rfl⟩
theorem d1_10 : DAt B1 10 (.putfield 7) 3 13 := ⟨by decide +kernel, rfl⟩
theorem d1_13 : DAt B1 13 (.aload_n 0) 1 14 := ⟨by decide +kernel, rfl⟩
theorem d1_14 : DAt B1 14 (.sipush 129) 3 17 := ⟨by decide +kernel, rfl⟩
theorem d1_17 : DAt B1 17 (.newarray .int) 2 19 := ⟨by decide +kernel, rfl⟩
theorem d1_19 : DAt B1 19 (.putfield 13) 3 22 := ⟨by decide +kernel, rfl⟩
theorem d1_22 : DAt B1 22 (.aload_n 0) 1 23 := ⟨by decide +kernel, rfl⟩
theorem d1_23 : DAt B1 23 (.sipush 129) 3 26 := ⟨by decide +kernel, rfl⟩
theorem d1_26 : DAt B1 26 (.newarray .int) 2 28 := ⟨by decide +kernel, rfl⟩
theorem d1_28 : DAt B1 28 (.putfield 16) 3 31 := ⟨by decide +kernel, rfl⟩
theorem d1_31 : DAt B1 31 (.aload_n 0) 1 32 := ⟨by decide +kernel, rfl⟩
theorem d1_32 : DAt B1 32 (.sipush 129) 3 35 := ⟨by decide +kernel, rfl⟩
theorem d1_35 : DAt B1 35 (.newarray .int) 2 37 := ⟨by decide +kernel, rfl⟩
theorem d1_37 : DAt B1 37 (.putfield 19) 3 40 := ⟨by decide +kernel, rfl⟩
theorem d1_40 : DAt B1 40 (.aload_n 0) 1 41 := ⟨by decide +kernel, rfl⟩
theorem d1_41 : DAt B1 41 (.sipush 129) 3 44 := ⟨by decide +kernel, rfl⟩
theorem d1_44 : DAt B1 44 (.newarray .int) 2 46 := ⟨by decide +kernel, rfl⟩
theorem d1_46 : DAt B1 46 (.putfield 22) 3 49 := ⟨by decide +kernel, rfl⟩
theorem d1_49 : DAt B1 49 (.aload_n 0) 1 50 := ⟨by decide +kernel, rfl⟩
theorem d1_50 : DAt B1 50 (.bipush 8) 2 52 := ⟨by decide +kernel, rfl⟩
theorem d1_52 : DAt B1 52 (.newarray .boolean) 2 54 := ⟨by decide +kernel, rfl⟩
theorem d1_54 : DAt B1 54 (.putfield 25) 3 57 := ⟨by decide +kernel, rfl⟩
theorem d1_57 : DAt B1 57 (.aload_n 0) 1 58 := ⟨by decide +kernel, rfl⟩
theorem d1_58 : DAt B1 58 (.bipush 8) 2 60 := ⟨by decide +kernel, rfl⟩
theorem d1_60 : DAt B1 60 (.newarray .int) 2 62 := ⟨by decide +kernel, rfl⟩
theorem d1_62 : DAt B1 62 (.putfield 29) 3 65 := ⟨by decide +kernel, rfl⟩
theorem d1_65 : DAt B1 65 (.aload_n 0) 1 66 := ⟨by decide +kernel, rfl⟩
theorem d1_66 : DAt B1 66 (.bipush 32) 2 68 := ⟨by decide +kernel, rfl⟩
theorem d1_68 : DAt B1 68 (.newarray .boolean) 2 70 := ⟨by decide +kernel, rfl⟩
theorem d1_70 : DAt B1 70 (.putfield 32) 3 73 := ⟨by decide +kernel, rfl⟩
theorem d1_73 : DAt B1 73 (.aload_n 0) 1 74 := ⟨by decide +kernel, rfl⟩
theorem d1_74 : DAt B1 74 (.bipush 32) 2 76 := ⟨by decide +kernel, rfl⟩
theorem d1_76 : DAt B1 76 (.newarray .int) 2 78 := ⟨by decide +kernel, rfl⟩
theorem d1_78 : DAt B1 78 (.putfield 35) 3 81 := ⟨by decide +kernel, rfl⟩
theorem d1_81 : DAt B1 81 (.aload_n 0) 1 82 := ⟨by decide +kernel, rfl⟩
theorem d1_82 : DAt B1 82 (.bipush 32) 2 84 := ⟨by decide +kernel, rfl⟩
theorem d1_84 : DAt B1 84 (.newarray .boolean) 2 86 := ⟨by decide +kernel, rfl⟩
theorem d1_86 : DAt B1 86 (.putfield 38) 3 89 := ⟨by decide +kernel, rfl⟩
theorem d1_89 : DAt B1 89 (.aload_n 0) 1 90 := ⟨by decide +kernel, rfl⟩
theorem d1_90 : DAt B1 90 (.bipush 32) 2 92 := ⟨by decide +kernel, rfl⟩
theorem d1_92 : DAt B1 92 (.newarray .int) 2 94 := ⟨by decide +kernel, rfl⟩
theorem d1_94 : DAt B1 94 (.putfield 41) 3 97 := ⟨by decide +kernel, rfl⟩
theorem d1_97 : DAt B1 97 (.aload_n 0) 1 98 := ⟨by decide +kernel, rfl⟩
theorem d1_98 : DAt B1 98 (.bipush 32) 2 100 := ⟨by decide +kernel, rfl⟩
theorem d1_100 : DAt B1 100 (.newarray .int) 2 102 := ⟨by decide +kernel, rfl⟩
theorem d1_102 : DAt B1 102 (.putfield 44) 3 105 := ⟨by decide +kernel, rfl⟩
theorem d1_105 : DAt B1 105 (.aload_n 0) 1 106 := ⟨by decide +kernel, rfl⟩
theorem d1_106 : DAt B1 106 (.bipush 32) 2 108 := ⟨by decide +kernel, rfl⟩
theorem d1_108 : DAt B1 108 (.newarray .int) 2 110 := ⟨by decide +kernel, rfl⟩
theorem d1_110 : DAt B1 110 (.putfield 47) 3 113 := ⟨by decide +kernel, rfl⟩
theorem d1_113 : DAt B1 113 (.aload_n 0) 1 114 := ⟨by decide +kernel, rfl⟩
theorem d1_114 : DAt B1 114 (.sipush 128) 3 117 := ⟨by decide +kernel, rfl⟩
theorem d1_117 : DAt B1 117 (.newarray .int) 2 119 := ⟨by decide +kernel, rfl⟩
theorem d1_119 : DAt B1 119 (.putfield 50) 3 122 := ⟨by decide +kernel, rfl⟩
theorem d1_122 : DAt B1 122 (.aload_n 0) 1 123 := ⟨by decide +kernel, rfl⟩
theorem d1_123 : DAt B1 123 (.sipush 128) 3 126 := ⟨by decide +kernel, rfl⟩
theorem d1_126 : DAt B1 126 (.newarray .int) 2 128 := ⟨by decide +kernel, rfl⟩
theorem d1_128 : DAt B1 128 (.putfield 53) 3 131 := ⟨by decide +kernel, rfl⟩
theorem d1_131 : DAt B1 131 (.aload_n 0) 1 132 := ⟨by decide +kernel, rfl⟩
theorem d1_132 : DAt B1 132 (.sipush 128) 3 135 := ⟨by decide +kernel, rfl⟩
theorem d1_135 : DAt B1 135 (.newarray .int) 2 137 := ⟨by decide +kernel, rfl⟩
theorem d1_137 : DAt B1 137 (.putfield 56) 3 140 := ⟨by decide +kernel, rfl⟩
theorem d1_140 : DAt B1 140 (.aload_n 0) 1 141 := ⟨by decide +kernel, rfl⟩
theorem d1_141 : DAt B1 141 (.sipush 128) 3 144 := ⟨by decide +kernel, rfl⟩
theorem d1_144 : DAt B1 144 (.newarray .int) 2 146 := ⟨by decide +kernel, rfl⟩
theorem d1_146 : DAt B1 146 (.putfield 59) 3 149 := ⟨by decide +kernel, rfl⟩
theorem d1_149 : DAt B1 149 (.aload_n 0) 1 150 := ⟨by decide +kernel, rfl⟩
theorem d1_150 : DAt B1 150 (.aload_n 0) 1 151 := ⟨by decide +kernel, rfl⟩
theorem d1_151 : DAt B1 151 (.iload_n 1) 1 152 := ⟨by decide +kernel, rfl⟩
theorem d1_152 : DAt B1 152 (.bipush 8) 2 154 := ⟨by decide +kernel, rfl⟩
theorem d1_154 : DAt B1 154 (.bipush 32) 2 156 := ⟨by decide +kernel, rfl⟩
theorem d1_156 : DAt B1 156 (.invokevirtual 62) 3 159 := ⟨by decide +kernel, rfl⟩
theorem d1_159 : DAt B1 159 (.putfield 66) 3 162 := ⟨by decide +kernel, rfl⟩
theorem d1_162 : DAt B1 162 (.aload_n 0) 1 163 := ⟨by decide +kernel, rfl⟩
theorem d1_163 : DAt B1 163 (.aload_n 0) 1 164 := ⟨by decide +kernel, rfl⟩
theorem d1_164 : DAt B1 164 (.iload_n 2) 1 165 := ⟨by decide +kernel, rfl⟩
theorem d1_165 : DAt B1 165 (.iconst 2) 1 166 := ⟨by decide +kernel, rfl⟩
theorem d1_166 : DAt B1 166 (.bipush 8) 2 168 := ⟨by decide +kernel, rfl⟩
theorem d1_168 : DAt B1 168 (.invokevirtual 62) 3 171 := ⟨by decide +kernel, rfl⟩
theorem d1_171 : DAt B1 171 (.putfield 70) 3 174 := ⟨by decide +kernel, rfl⟩
theorem d1_174 : DAt B1 174 (.aload_n 0) 1 175 := ⟨by decide +kernel, rfl⟩
theorem d1_175 : DAt B1 175 (.aload_n 0) 1 176 := ⟨by decide +kernel, rfl⟩
theorem d1_176 : DAt B1 176 (.iload_n 3) 1 177 := ⟨by decide +kernel, rfl⟩
theorem d1_177 : DAt B1 177 (.bipush 16) 2 179 := ⟨by decide +kernel, rfl⟩
theorem d1_179 : DAt B1 179 (.sipush 128) 3 182 := ⟨by decide +kernel, rfl⟩
theorem d1_182 : DAt B1 182 (.invokevirtual 62) 3 185 := ⟨by decide +kernel, rfl⟩
theorem d1_185 : DAt B1 185 (.putfield 73) 3 188 := ⟨by decide +kernel, rfl⟩
theorem d1_188 : DAt B1 188 (.aload_n 0) 1 189 := ⟨by decide +kernel, rfl⟩
theorem d1_189 : DAt B1 189 (.aload_n 0) 1 190 := ⟨by decide +kernel, rfl⟩
theorem d1_190 : DAt B1 190 (.iload 4) 2 192 := ⟨by decide +kernel, rfl⟩
theorem d1_192 : DAt B1 192 (.iconst 2) 1 193 := ⟨by decide +kernel, rfl⟩
theorem d1_193 : DAt B1 193 (.bipush 32) 2 195 := ⟨by decide +kernel, rfl⟩
theorem d1_195 : DAt B1 195 (.invokevirtual 62) 3 198 := ⟨by decide +kernel, rfl⟩
theorem d1_198 : DAt B1 198 (.putfield 76) 3 201 := ⟨by decide +kernel, rfl⟩
theorem d1_201 : DAt B1 201 (.aload_n 0) 1 202 := ⟨by decide +kernel, rfl⟩
theorem d1_202 : DAt B1 202 (.iconst 0) 1 203 := ⟨by decide +kernel, rfl⟩
theorem d1_203 : DAt B1 203 (.putfield 79) 3 206 := ⟨by decide +kernel, rfl⟩
theorem d1_206 : DAt B1 206 (.aload_n 0) 1 207 := ⟨by decide +kernel, rfl⟩
theorem d1_207 : DAt B1 207 (.iconst 0) 1 208 := ⟨by decide +kernel, rfl⟩
theorem d1_208 : DAt B1 208 (.putfield 82) 3 211 := ⟨by decide +kernel, rfl⟩
theorem d1_211 : DAt B1 211 (.aload_n 0) 1 212 := ⟨by decide +kernel, rfl⟩
theorem d1_212 : DAt B1 212 (.iconst 0) 1 213 := ⟨by decide +kernel, rfl⟩
theorem d1_213 : DAt B1 213 (.putfield 85) 3 216 := ⟨by decide +kernel, rfl⟩
theorem d1_216 : DAt B1 216 (.aload_n 0) 1 217 := ⟨by decide +kernel, rfl⟩
theorem d1_217 : DAt B1 217 (.iconst 0) 1 218 := ⟨by decide +kernel, rfl⟩
theorem d1_218 : DAt B1 218 (.putfield 88) 3 221 := ⟨by decide +kernel, rfl⟩
theorem d1_221 : DAt B1 221 (.aload_n 0) 1 222 := ⟨by decide +kernel, rfl⟩
theorem d1_222 : DAt B1 222 (.iconst 0) 1 223 := ⟨by decide +kernel, rfl⟩
theorem d1_223 : DAt B1 223 (.putfield 91) 3 226 := ⟨by decide +kernel, rfl⟩
theorem d1_226 : DAt B1 226 (.aload_n 0) 1 227 := ⟨by decide +kernel, rfl⟩
theorem d1_227 : DAt B1 227 (.iconst 0) 1 228 := ⟨by decide +kernel, rfl⟩
theorem d1_228 : DAt B1 228 (.putfield 94) 3 231 := ⟨by decide +kernel, rfl⟩
theorem d1_231 : DAt B1 231 (.return_) 1 232 := ⟨by decide +kernel, rfl⟩
def B4 : Bdy := ((⟨"LogicalReplicator", "validSlot", "(I)Z"⟩ : MethodName), prog_1_method_3_code, 2, (some .boolean), ({ frames := 0, cells := 0, slots := 0, locals := 0 } : Room))
theorem d4_0 : DAt B4 0 (.iload_n 1) 1 1 := ⟨by decide +kernel, rfl⟩
theorem d4_1 : DAt B4 1 (.ifCond .lt 21) 3 4 := ⟨by decide +kernel, rfl⟩
theorem d4_4 : DAt B4 4 (.iload_n 1) 1 5 := ⟨by decide +kernel, rfl⟩
theorem d4_5 : DAt B4 5 (.aload_n 0) 1 6 := ⟨by decide +kernel, rfl⟩
theorem d4_6 : DAt B4 6 (.getfield 70) 3 9 := ⟨by decide +kernel, rfl⟩
theorem d4_9 : DAt B4 9 (.if_icmp .ge 13) 3 12 := ⟨by decide +kernel, rfl⟩
theorem d4_12 : DAt B4 12 (.iload_n 1) 1 13 := ⟨by decide +kernel, rfl⟩
theorem d4_13 : DAt B4 13 (.bipush 8) 2 15 := ⟨by decide +kernel, rfl⟩
theorem d4_15 : DAt B4 15 (.if_icmp .ge 7) 3 18 := ⟨by decide +kernel, rfl⟩
theorem d4_18 : DAt B4 18 (.iconst 1) 1 19 := ⟨by decide +kernel, rfl⟩
theorem d4_19 : DAt B4 19 (.goto 4) 3 22 := ⟨by decide +kernel, rfl⟩
theorem d4_22 : DAt B4 22 (.iconst 0) 1 23 := ⟨by decide +kernel, rfl⟩
theorem d4_23 : DAt B4 23 (.ireturn) 1 24 := ⟨by decide +kernel, rfl⟩
def B5 : Bdy := ((⟨"LogicalReplicator", "logFull", "()Z"⟩ : MethodName), prog_1_method_5_code, 1, (some .boolean), ({ frames := 0, cells := 0, slots := 0, locals := 0 } : Room))
theorem d5_0 : DAt B5 0 (.aload_n 0) 1 1 := ⟨by decide +kernel, rfl⟩
theorem d5_1 : DAt B5 1 (.getfield 79) 3 4 := ⟨by decide +kernel, rfl⟩
theorem d5_4 : DAt B5 4 (.aload_n 0) 1 5 := ⟨by decide +kernel, rfl⟩
theorem d5_5 : DAt B5 5 (.getfield 73) 3 8 := ⟨by decide +kernel, rfl⟩
theorem d5_8 : DAt B5 8 (.if_icmp .ge 13) 3 11 := ⟨by decide +kernel, rfl⟩
theorem d5_11 : DAt B5 11 (.aload_n 0) 1 12 := ⟨by decide +kernel, rfl⟩
theorem d5_12 : DAt B5 12 (.getfield 79) 3 15 := ⟨by decide +kernel, rfl⟩
theorem d5_15 : DAt B5 15 (.sipush 128) 3 18 := ⟨by decide +kernel, rfl⟩
theorem d5_18 : DAt B5 18 (.if_icmp .lt 7) 3 21 := ⟨by decide +kernel, rfl⟩
theorem d5_21 : DAt B5 21 (.iconst 1) 1 22 := ⟨by decide +kernel, rfl⟩
theorem d5_22 : DAt B5 22 (.goto 4) 3 25 := ⟨by decide +kernel, rfl⟩
theorem d5_25 : DAt B5 25 (.iconst 0) 1 26 := ⟨by decide +kernel, rfl⟩
theorem d5_26 : DAt B5 26 (.ireturn) 1 27 := ⟨by decide +kernel, rfl⟩
def B6 : Bdy := ((⟨"LogicalReplicator", "append", "(IIII)I"⟩ : MethodName), prog_1_method_7_code, 5, (some .int), ({ frames := 0, cells := 0, slots := 0, locals := 0 } : Room))
theorem d6_0 : DAt B6 0 (.aload_n 0) 1 1 := ⟨by decide +kernel, rfl⟩
theorem d6_1 : DAt B6 1 (.dup) 1 2 := ⟨by decide +kernel, rfl⟩
theorem d6_2 : DAt B6 2 (.getfield 79) 3 5 := ⟨by decide +kernel, rfl⟩
theorem d6_5 : DAt B6 5 (.iconst 1) 1 6 := ⟨by decide +kernel, rfl⟩
theorem d6_6 : DAt B6 6 (.iadd) 1 7 := ⟨by decide +kernel, rfl⟩
theorem d6_7 : DAt B6 7 (.putfield 79) 3 10 := ⟨by decide +kernel, rfl⟩
theorem d6_10 : DAt B6 10 (.aload_n 0) 1 11 := ⟨by decide +kernel, rfl⟩
theorem d6_11 : DAt B6 11 (.getfield 7) 3 14 := ⟨by decide +kernel, rfl⟩
theorem d6_14 : DAt B6 14 (.aload_n 0) 1 15 := ⟨by decide +kernel, rfl⟩
theorem d6_15 : DAt B6 15 (.getfield 79) 3 18 := ⟨by decide +kernel, rfl⟩
theorem d6_18 : DAt B6 18 (.iload_n 1) 1 19 := ⟨by decide +kernel, rfl⟩
theorem d6_19 : DAt B6 19 (.iastore) 1 20 := ⟨by decide +kernel, rfl⟩
theorem d6_20 : DAt B6 20 (.aload_n 0) 1 21 := ⟨by decide +kernel, rfl⟩
theorem d6_21 : DAt B6 21 (.getfield 13) 3 24 := ⟨by decide +kernel, rfl⟩
theorem d6_24 : DAt B6 24 (.aload_n 0) 1 25 := ⟨by decide +kernel, rfl⟩
theorem d6_25 : DAt B6 25 (.getfield 79) 3 28 := ⟨by decide +kernel, rfl⟩
theorem d6_28 : DAt B6 28 (.iload_n 2) 1 29 := ⟨by decide +kernel, rfl⟩
theorem d6_29 : DAt B6 29 (.iastore) 1 30 := ⟨by decide +kernel, rfl⟩
theorem d6_30 : DAt B6 30 (.aload_n 0) 1 31 := ⟨by decide +kernel, rfl⟩
theorem d6_31 : DAt B6 31 (.getfield 16) 3 34 := ⟨by decide +kernel, rfl⟩
theorem d6_34 : DAt B6 34 (.aload_n 0) 1 35 := ⟨by decide +kernel, rfl⟩
theorem d6_35 : DAt B6 35 (.getfield 79) 3 38 := ⟨by decide +kernel, rfl⟩
theorem d6_38 : DAt B6 38 (.iload_n 3) 1 39 := ⟨by decide +kernel, rfl⟩
theorem d6_39 : DAt B6 39 (.iastore) 1 40 := ⟨by decide +kernel, rfl⟩
theorem d6_40 : DAt B6 40 (.aload_n 0) 1 41 := ⟨by decide +kernel, rfl⟩
theorem d6_41 : DAt B6 41 (.getfield 19) 3 44 := ⟨by decide +kernel, rfl⟩
theorem d6_44 : DAt B6 44 (.aload_n 0) 1 45 := ⟨by decide +kernel, rfl⟩
theorem d6_45 : DAt B6 45 (.getfield 79) 3 48 := ⟨by decide +kernel, rfl⟩
theorem d6_48 : DAt B6 48 (.iload 4) 2 50 := ⟨by decide +kernel, rfl⟩
theorem d6_50 : DAt B6 50 (.iastore) 1 51 := ⟨by decide +kernel, rfl⟩
theorem d6_51 : DAt B6 51 (.aload_n 0) 1 52 := ⟨by decide +kernel, rfl⟩
theorem d6_52 : DAt B6 52 (.getfield 22) 3 55 := ⟨by decide +kernel, rfl⟩
theorem d6_55 : DAt B6 55 (.aload_n 0) 1 56 := ⟨by decide +kernel, rfl⟩
theorem d6_56 : DAt B6 56 (.getfield 79) 3 59 := ⟨by decide +kernel, rfl⟩
theorem d6_59 : DAt B6 59 (.iconst 0) 1 60 := ⟨by decide +kernel, rfl⟩
theorem d6_60 : DAt B6 60 (.iastore) 1 61 := ⟨by decide +kernel, rfl⟩
theorem d6_61 : DAt B6 61 (.aload_n 0) 1 62 := ⟨by decide +kernel, rfl⟩
theorem d6_62 : DAt B6 62 (.getfield 79) 3 65 := ⟨by decide +kernel, rfl⟩
theorem d6_65 : DAt B6 65 (.ireturn) 1 66 := ⟨by decide +kernel, rfl⟩
def B3 : Bdy := ((⟨"LogicalReplicator", "begin", "(I)I"⟩ : MethodName), prog_1_method_8_code, 3, (some .int), ({ frames := 1, cells := 0, slots := 0, locals := 16 } : Room))
theorem d3_0 : DAt B3 0 (.aload_n 0) 1 1 := ⟨by decide +kernel, rfl⟩
theorem d3_1 : DAt B3 1 (.iload_n 1) 1 2 := ⟨by decide +kernel, rfl⟩
theorem d3_2 : DAt B3 2 (.invokevirtual 97) 3 5 := ⟨by decide +kernel, rfl⟩
theorem d3_5 : DAt B3 5 (.ifCond .ne 5) 3 8 := ⟨by decide +kernel, rfl⟩
theorem d3_8 : DAt B3 8 (.iconst (-1)) 1 9 := ⟨by decide +kernel, rfl⟩
theorem d3_9 : DAt B3 9 (.ireturn) 1 10 := ⟨by decide +kernel, rfl⟩
theorem d3_10 : DAt B3 10 (.aload_n 0) 1 11 := ⟨by decide +kernel, rfl⟩
theorem d3_11 : DAt B3 11 (.getfield 25) 3 14 := ⟨by decide +kernel, rfl⟩
theorem d3_14 : DAt B3 14 (.iload_n 1) 1 15 := ⟨by decide +kernel, rfl⟩
theorem d3_15 : DAt B3 15 (.baload) 1 16 := ⟨by decide +kernel, rfl⟩
theorem d3_16 : DAt B3 16 (.ifCond .eq 6) 3 19 := ⟨by decide +kernel, rfl⟩
theorem d3_19 : DAt B3 19 (.bipush (-2)) 2 21 := ⟨by decide +kernel, rfl⟩
theorem d3_21 : DAt B3 21 (.ireturn) 1 22 := ⟨by decide +kernel, rfl⟩
theorem d3_22 : DAt B3 22 (.aload_n 0) 1 23 := ⟨by decide +kernel, rfl⟩
theorem d3_23 : DAt B3 23 (.invokevirtual 101) 3 26 := ⟨by decide +kernel, rfl⟩
theorem d3_26 : DAt B3 26 (.ifCond .eq 6) 3 29 := ⟨by decide +kernel, rfl⟩
theorem d3_29 : DAt B3 29 (.bipush (-4)) 2 31 := ⟨by decide +kernel, rfl⟩
theorem d3_31 : DAt B3 31 (.ireturn) 1 32 := ⟨by decide +kernel, rfl⟩
theorem d3_32 : DAt B3 32 (.aload_n 0) 1 33 := ⟨by decide +kernel, rfl⟩
theorem d3_33 : DAt B3 33 (.iconst 1) 1 34 := ⟨by decide +kernel, rfl⟩
theorem d3_34 : DAt B3 34 (.iload_n 1) 1 35 := ⟨by decide +kernel, rfl⟩
theorem d3_35 : DAt B3 35 (.iconst 0) 1 36 := ⟨by decide +kernel, rfl⟩
theorem d3_36 : DAt B3 36 (.iconst 0) 1 37 := ⟨by decide +kernel, rfl⟩
theorem d3_37 : DAt B3 37 (.invokevirtual 105) 3 40 := ⟨by decide +kernel, rfl⟩
theorem d3_40 : DAt B3 40 (.istore_n 2) 1 41 := ⟨by decide +kernel, rfl⟩
theorem d3_41 : DAt B3 41 (.aload_n 0) 1 42 := ⟨by decide +kernel, rfl⟩
theorem d3_42 : DAt B3 42 (.getfield 25) 3 45 := ⟨by decide +kernel, rfl⟩
theorem d3_45 : DAt B3 45 (.iload_n 1) 1 46 := ⟨by decide +kernel, rfl⟩
theorem d3_46 : DAt B3 46 (.iconst 1) 1 47 := ⟨by decide +kernel, rfl⟩
theorem d3_47 : DAt B3 47 (.bastore) 1 48 := ⟨by decide +kernel, rfl⟩
theorem d3_48 : DAt B3 48 (.aload_n 0) 1 49 := ⟨by decide +kernel, rfl⟩
theorem d3_49 : DAt B3 49 (.getfield 29) 3 52 := ⟨by decide +kernel, rfl⟩
theorem d3_52 : DAt B3 52 (.iload_n 1) 1 53 := ⟨by decide +kernel, rfl⟩
theorem d3_53 : DAt B3 53 (.iload_n 2) 1 54 := ⟨by decide +kernel, rfl⟩
theorem d3_54 : DAt B3 54 (.iastore) 1 55 := ⟨by decide +kernel, rfl⟩
theorem d3_55 : DAt B3 55 (.iload_n 2) 1 56 := ⟨by decide +kernel, rfl⟩
theorem d3_56 : DAt B3 56 (.ireturn) 1 57 := ⟨by decide +kernel, rfl⟩
def B9 : Bdy := ((⟨"LogicalReplicator", "checkOpenSlot", "(I)I"⟩ : MethodName), prog_1_method_6_code, 2, (some .int), ({ frames := 1, cells := 0, slots := 0, locals := 13 } : Room))
theorem d9_0 : DAt B9 0 (.aload_n 0) 1 1 := ⟨by decide +kernel, rfl⟩
theorem d9_1 : DAt B9 1 (.iload_n 1) 1 2 := ⟨by decide +kernel, rfl⟩
theorem d9_2 : DAt B9 2 (.invokevirtual 97) 3 5 := ⟨by decide +kernel, rfl⟩
theorem d9_5 : DAt B9 5 (.ifCond .ne 5) 3 8 := ⟨by decide +kernel, rfl⟩
theorem d9_8 : DAt B9 8 (.iconst (-1)) 1 9 := ⟨by decide +kernel, rfl⟩
theorem d9_9 : DAt B9 9 (.ireturn) 1 10 := ⟨by decide +kernel, rfl⟩
theorem d9_10 : DAt B9 10 (.aload_n 0) 1 11 := ⟨by decide +kernel, rfl⟩
theorem d9_11 : DAt B9 11 (.getfield 25) 3 14 := ⟨by decide +kernel, rfl⟩
theorem d9_14 : DAt B9 14 (.iload_n 1) 1 15 := ⟨by decide +kernel, rfl⟩
theorem d9_15 : DAt B9 15 (.baload) 1 16 := ⟨by decide +kernel, rfl⟩
theorem d9_16 : DAt B9 16 (.ifCond .ne 6) 3 19 := ⟨by decide +kernel, rfl⟩
theorem d9_19 : DAt B9 19 (.bipush (-2)) 2 21 := ⟨by decide +kernel, rfl⟩
theorem d9_21 : DAt B9 21 (.ireturn) 1 22 := ⟨by decide +kernel, rfl⟩
theorem d9_22 : DAt B9 22 (.iconst 0) 1 23 := ⟨by decide +kernel, rfl⟩
theorem d9_23 : DAt B9 23 (.ireturn) 1 24 := ⟨by decide +kernel, rfl⟩
def B10 : Bdy := ((⟨"LogicalReplicator", "validKey", "(I)Z"⟩ : MethodName), prog_1_method_4_code, 2, (some .boolean), ({ frames := 0, cells := 0, slots := 0, locals := 0 } : Room))
theorem d10_0 : DAt B10 0 (.iload_n 1) 1 1 := ⟨by decide +kernel, rfl⟩
theorem d10_1 : DAt B10 1 (.ifCond .lt 21) 3 4 := ⟨by decide +kernel, rfl⟩
theorem d10_4 : DAt B10 4 (.iload_n 1) 1 5 := ⟨by decide +kernel, rfl⟩
theorem d10_5 : DAt B10 5 (.aload_n 0) 1 6 := ⟨by decide +kernel, rfl⟩
theorem d10_6 : DAt B10 6 (.getfield 66) 3 9 := ⟨by decide +kernel, rfl⟩
theorem d10_9 : DAt B10 9 (.if_icmp .ge 13) 3 12 := ⟨by decide +kernel, rfl⟩
theorem d10_12 : DAt B10 12 (.iload_n 1) 1 13 := ⟨by decide +kernel, rfl⟩
theorem d10_13 : DAt B10 13 (.bipush 32) 2 15 := ⟨by decide +kernel, rfl⟩
theorem d10_15 : DAt B10 15 (.if_icmp .ge 7) 3 18 := ⟨by decide +kernel, rfl⟩
theorem d10_18 : DAt B10 18 (.iconst 1) 1 19 := ⟨by decide +kernel, rfl⟩
theorem d10_19 : DAt B10 19 (.goto 4) 3 22 := ⟨by decide +kernel, rfl⟩
theorem d10_22 : DAt B10 22 (.iconst 0) 1 23 := ⟨by decide +kernel, rfl⟩
theorem d10_23 : DAt B10 23 (.ireturn) 1 24 := ⟨by decide +kernel, rfl⟩
def B8 : Bdy := ((⟨"LogicalReplicator", "write", "(IIII)I"⟩ : MethodName), prog_1_method_11_code, 6, (some .int), ({ frames := 2, cells := 0, slots := 0, locals := 26 } : Room))
theorem d8_0 : DAt B8 0 (.aload_n 0) 1 1 := ⟨by decide +kernel, rfl⟩
theorem d8_1 : DAt B8 1 (.iload_n 2) 1 2 := ⟨by decide +kernel, rfl⟩
theorem d8_2 : DAt B8 2 (.invokevirtual 112) 3 5 := ⟨by decide +kernel, rfl⟩
theorem d8_5 : DAt B8 5 (.istore 5) 2 7 := ⟨by decide +kernel, rfl⟩
theorem d8_7 : DAt B8 7 (.iload 5) 2 9 := ⟨by decide +kernel, rfl⟩
theorem d8_9 : DAt B8 9 (.ifCond .eq 6) 3 12 := ⟨by decide +kernel, rfl⟩
theorem d8_12 : DAt B8 12 (.iload 5) 2 14 := ⟨by decide +kernel, rfl⟩
theorem d8_14 : DAt B8 14 (.ireturn) 1 15 := ⟨by decide +kernel, rfl⟩
theorem d8_15 : DAt B8 15 (.aload_n 0) 1 16 := ⟨by decide +kernel, rfl⟩
theorem d8_16 : DAt B8 16 (.iload_n 3) 1 17 := ⟨by decide +kernel, rfl⟩
theorem d8_17 : DAt B8 17 (.invokevirtual 116) 3 20 := ⟨by decide +kernel, rfl⟩
theorem d8_20 : DAt B8 20 (.ifCond .ne 6) 3 23 := ⟨by decide +kernel, rfl⟩
theorem d8_23 : DAt B8 23 (.bipush (-3)) 2 25 := ⟨by decide +kernel, rfl⟩
theorem d8_25 : DAt B8 25 (.ireturn) 1 26 := ⟨by decide +kernel, rfl⟩
theorem d8_26 : DAt B8 26 (.aload_n 0) 1 27 := ⟨by decide +kernel, rfl⟩
theorem d8_27 : DAt B8 27 (.invokevirtual 101) 3 30 := ⟨by decide +kernel, rfl⟩
theorem d8_30 : DAt B8 30 (.ifCond .eq 6) 3 33 := ⟨by decide +kernel, rfl⟩
theorem d8_33 : DAt B8 33 (.bipush (-4)) 2 35 := ⟨by decide +kernel, rfl⟩
theorem d8_35 : DAt B8 35 (.ireturn) 1 36 := ⟨by decide +kernel, rfl⟩
theorem d8_36 : DAt B8 36 (.aload_n 0) 1 37 := ⟨by decide +kernel, rfl⟩
theorem d8_37 : DAt B8 37 (.iload_n 1) 1 38 := ⟨by decide +kernel, rfl⟩
theorem d8_38 : DAt B8 38 (.iload_n 2) 1 39 := ⟨by decide +kernel, rfl⟩
theorem d8_39 : DAt B8 39 (.iload_n 3) 1 40 := ⟨by decide +kernel, rfl⟩
theorem d8_40 : DAt B8 40 (.iload 4) 2 42 := ⟨by decide +kernel, rfl⟩
theorem d8_42 : DAt B8 42 (.invokevirtual 105) 3 45 := ⟨by decide +kernel, rfl⟩
theorem d8_45 : DAt B8 45 (.ireturn) 1 46 := ⟨by decide +kernel, rfl⟩
def B7 : Bdy := ((⟨"LogicalReplicator", "put", "(III)I"⟩ : MethodName), prog_1_method_9_code, 4, (some .int), ({ frames := 3, cells := 0, slots := 0, locals := 43 } : Room))
theorem d7_0 : DAt B7 0 (.aload_n 0) 1 1 := ⟨by decide +kernel, rfl⟩
theorem d7_1 : DAt B7 1 (.iconst 2) 1 2 := ⟨by decide +kernel, rfl⟩
theorem d7_2 : DAt B7 2 (.iload_n 1) 1 3 := ⟨by decide +kernel, rfl⟩
theorem d7_3 : DAt B7 3 (.iload_n 2) 1 4 := ⟨by decide +kernel, rfl⟩
theorem d7_4 : DAt B7 4 (.iload_n 3) 1 5 := ⟨by decide +kernel, rfl⟩
theorem d7_5 : DAt B7 5 (.invokevirtual 109) 3 8 := ⟨by decide +kernel, rfl⟩
theorem d7_8 : DAt B7 8 (.ireturn) 1 9 := ⟨by decide +kernel, rfl⟩
def B11 : Bdy := ((⟨"LogicalReplicator", "del", "(II)I"⟩ : MethodName), prog_1_method_10_code, 3, (some .int), ({ frames := 3, cells := 0, slots := 0, locals := 43 } : Room))
theorem d11_0 : DAt B11 0 (.aload_n 0) 1 1 := ⟨by decide +kernel, rfl⟩
theorem d11_1 : DAt B11 1 (.iconst 3) 1 2 := ⟨by decide +kernel, rfl⟩
theorem d11_2 : DAt B11 2 (.iload_n 1) 1 3 := ⟨by decide +kernel, rfl⟩
theorem d11_3 : DAt B11 3 (.iload_n 2) 1 4 := ⟨by decide +kernel, rfl⟩
theorem d11_4 : DAt B11 4 (.iconst 0) 1 5 := ⟨by decide +kernel, rfl⟩
theorem d11_5 : DAt B11 5 (.invokevirtual 109) 3 8 := ⟨by decide +kernel, rfl⟩
theorem d11_8 : DAt B11 8 (.ireturn) 1 9 := ⟨by decide +kernel, rfl⟩
def B12 : Bdy := ((⟨"LogicalReplicator", "pubRow", "(I)J"⟩ : MethodName), prog_1_method_27_code, 2, (some .long), ({ frames := 1, cells := 0, slots := 0, locals := 13 } : Room))
theorem d12_0 : DAt B12 0 (.aload_n 0) 1 1 := ⟨by decide +kernel, rfl⟩
theorem d12_1 : DAt B12 1 (.iload_n 1) 1 2 := ⟨by decide +kernel, rfl⟩
theorem d12_2 : DAt B12 2 (.invokevirtual 116) 3 5 := ⟨by decide +kernel, rfl⟩
theorem d12_5 : DAt B12 5 (.ifCond .ne 7) 3 8 := ⟨by decide +kernel, rfl⟩
theorem d12_8 : DAt B12 8 (.ldc2_w 146) 3 11 := ⟨by decide +kernel, rfl⟩
theorem d12_11 : DAt B12 11 (.lreturn) 1 12 := ⟨by decide +kernel, rfl⟩
theorem d12_12 : DAt B12 12 (.aload_n 0) 1 13 := ⟨by decide +kernel, rfl⟩
theorem d12_13 : DAt B12 13 (.getfield 32) 3 16 := ⟨by decide +kernel, rfl⟩
theorem d12_16 : DAt B12 16 (.iload_n 1) 1 17 := ⟨by decide +kernel, rfl⟩
theorem d12_17 : DAt B12 17 (.baload) 1 18 := ⟨by decide +kernel, rfl⟩
theorem d12_18 : DAt B12 18 (.ifCond .eq 11) 3 21 := ⟨by decide +kernel, rfl⟩
theorem d12_21 : DAt B12 21 (.aload_n 0) 1 22 := ⟨by decide +kernel, rfl⟩
theorem d12_22 : DAt B12 22 (.getfield 35) 3 25 := ⟨by decide +kernel, rfl⟩
theorem d12_25 : DAt B12 25 (.iload_n 1) 1 26 := ⟨by decide +kernel, rfl⟩
theorem d12_26 : DAt B12 26 (.iaload) 1 27 := ⟨by decide +kernel, rfl⟩
theorem d12_27 : DAt B12 27 (.i2l) 1 28 := ⟨by decide +kernel, rfl⟩
theorem d12_28 : DAt B12 28 (.lreturn) 1 29 := ⟨by decide +kernel, rfl⟩
theorem d12_29 : DAt B12 29 (.ldc2_w 146) 3 32 := ⟨by decide +kernel, rfl⟩
theorem d12_32 : DAt B12 32 (.lreturn) 1 33 := ⟨by decide +kernel, rfl⟩
def B14 : Bdy := ((⟨"LogicalReplicator", "applyToPublisher", "(III)V"⟩ : MethodName), prog_1_method_13_code, 7, none, ({ frames := 0, cells := 0, slots := 0, locals := 0 } : Room))
theorem d14_0 : DAt B14 0 (.iload_n 2) 1 1 := ⟨by decide +kernel, rfl⟩
theorem d14_1 : DAt B14 1 (.iconst 1) 1 2 := ⟨by decide +kernel, rfl⟩
theorem d14_2 : DAt B14 2 (.iadd) 1 3 := ⟨by decide +kernel, rfl⟩
theorem d14_3 : DAt B14 3 (.istore 4) 2 5 := ⟨by decide +kernel, rfl⟩
theorem d14_5 : DAt B14 5 (.iload 4) 2 7 := ⟨by decide +kernel, rfl⟩
theorem d14_7 : DAt B14 7 (.iconst 1) 1 8 := ⟨by decide +kernel, rfl⟩
theorem d14_8 : DAt B14 8 (.if_icmp .ge 6) 3 11 := ⟨by decide +kernel, rfl⟩
theorem d14_11 : DAt B14 11 (.iconst 1) 1 12 := ⟨by decide +kernel, rfl⟩
theorem d14_12 : DAt B14 12 (.istore 4) 2 14 := ⟨by decide +kernel, rfl⟩
theorem d14_14 : DAt B14 14 (.iload 4) 2 16 := ⟨by decide +kernel, rfl⟩
theorem d14_16 : DAt B14 16 (.istore 5) 2 18 := ⟨by decide +kernel, rfl⟩
theorem d14_18 : DAt B14 18 (.iload 5) 2 20 := ⟨by decide +kernel, rfl⟩
theorem d14_20 : DAt B14 20 (.iload_n 3) 1 21 := ⟨by decide +kernel, rfl⟩
theorem d14_21 : DAt B14 21 (.if_icmp .ge 110) 3 24 := ⟨by decide +kernel, rfl⟩
theorem d14_24 : DAt B14 24 (.iload 5) 2 26 := ⟨by decide +kernel, rfl⟩
theorem d14_26 : DAt B14 26 (.sipush 129) 3 29 := ⟨by decide +kernel, rfl⟩
theorem d14_29 : DAt B14 29 (.if_icmp .ge 102) 3 32 := ⟨by decide +kernel, rfl⟩
theorem d14_32 : DAt B14 32 (.aload_n 0) 1 33 := ⟨by decide +kernel, rfl⟩
theorem d14_33 : DAt B14 33 (.getfield 13) 3 36 := ⟨by decide +kernel, rfl⟩
theorem d14_36 : DAt B14 36 (.iload 5) 2 38 := ⟨by decide +kernel, rfl⟩
theorem d14_38 : DAt B14 38 (.iaload) 1 39 := ⟨by decide +kernel, rfl⟩
theorem d14_39 : DAt B14 39 (.iload_n 1) 1 40 := ⟨by decide +kernel, rfl⟩
theorem d14_40 : DAt B14 40 (.if_icmp .eq 6) 3 43 := ⟨by decide +kernel, rfl⟩
theorem d14_43 : DAt B14 43 (.goto 82) 3 46 := ⟨by decide +kernel, rfl⟩
theorem d14_46 : DAt B14 46 (.aload_n 0) 1 47 := ⟨by decide +kernel, rfl⟩
theorem d14_47 : DAt B14 47 (.getfield 16) 3 50 := ⟨by decide +kernel, rfl⟩
theorem d14_50 : DAt B14 50 (.iload 5) 2 52 := ⟨by decide +kernel, rfl⟩
theorem d14_52 : DAt B14 52 (.iaload) 1 53 := ⟨by decide +kernel, rfl⟩
theorem d14_53 : DAt B14 53 (.istore 6) 2 55 := ⟨by decide +kernel, rfl⟩
theorem d14_55 : DAt B14 55 (.iload 6) 2 57 := ⟨by decide +kernel, rfl⟩
theorem d14_57 : DAt B14 57 (.ifCond .lt 68) 3 60 := ⟨by decide +kernel, rfl⟩
theorem d14_60 : DAt B14 60 (.iload 6) 2 62 := ⟨by decide +kernel, rfl⟩
theorem d14_62 : DAt B14 62 (.bipush 32) 2 64 := ⟨by decide +kernel, rfl⟩
theorem d14_64 : DAt B14 64 (.if_icmp .lt 6) 3 67 := ⟨by decide +kernel, rfl⟩
theorem d14_67 : DAt B14 67 (.goto 58) 3 70 := ⟨by decide +kernel, rfl⟩
theorem d14_70 : DAt B14 70 (.aload_n 0) 1 71 := ⟨by decide +kernel, rfl⟩
theorem d14_71 : DAt B14 71 (.getfield 7) 3 74 := ⟨by decide +kernel, rfl⟩
theorem d14_74 : DAt B14 74 (.iload 5) 2 76 := ⟨by decide +kernel, rfl⟩
theorem d14_76 : DAt B14 76 (.iaload) 1 77 := ⟨by decide +kernel, rfl⟩
theorem d14_77 : DAt B14 77 (.iconst 2) 1 78 := ⟨by decide +kernel, rfl⟩
theorem d14_78 : DAt B14 78 (.if_icmp .ne 28) 3 81 := ⟨by decide +kernel, rfl⟩
theorem d14_81 : DAt B14 81 (.aload_n 0) 1 82 := ⟨by decide +kernel, rfl⟩
theorem d14_82 : DAt B14 82 (.getfield 32) 3 85 := ⟨by decide +kernel, rfl⟩
theorem d14_85 : DAt B14 85 (.iload 6) 2 87 := ⟨by decide +kernel, rfl⟩
theorem d14_87 : DAt B14 87 (.iconst 1) 1 88 := ⟨by decide +kernel, rfl⟩
theorem d14_88 : DAt B14 88 (.bastore) 1 89 := ⟨by decide +kernel, rfl⟩
theorem d14_89 : DAt B14 89 (.aload_n 0) 1 90 := ⟨by decide +kernel, rfl⟩
theorem d14_90 : DAt B14 90 (.getfield 35) 3 93 := ⟨by decide +kernel, rfl⟩
theorem d14_93 : DAt B14 93 (.iload 6) 2 95 := ⟨by decide +kernel, rfl⟩
theorem d14_95 : DAt B14 95 (.aload_n 0) 1 96 := ⟨by decide +kernel, rfl⟩
theorem d14_96 : DAt B14 96 (.getfield 19) 3 99 := ⟨by decide +kernel, rfl⟩
theorem d14_99 : DAt B14 99 (.iload 5) 2 101 := ⟨by decide +kernel, rfl⟩
theorem d14_101 : DAt B14 101 (.iaload) 1 102 := ⟨by decide +kernel, rfl⟩
theorem d14_102 : DAt B14 102 (.iastore) 1 103 := ⟨by decide +kernel, rfl⟩
theorem d14_103 : DAt B14 103 (.goto 22) 3 106 := ⟨by decide +kernel, rfl⟩
theorem d14_106 : DAt B14 106 (.aload_n 0) 1 107 := ⟨by decide +kernel, rfl⟩
theorem d14_107 : DAt B14 107 (.getfield 7) 3 110 := ⟨by decide +kernel, rfl⟩
theorem d14_110 : DAt B14 110 (.iload 5) 2 112 := ⟨by decide +kernel, rfl⟩
theorem d14_112 : DAt B14 112 (.iaload) 1 113 := ⟨by decide +kernel, rfl⟩
theorem d14_113 : DAt B14 113 (.iconst 3) 1 114 := ⟨by decide +kernel, rfl⟩
theorem d14_114 : DAt B14 114 (.if_icmp .ne 11) 3 117 := ⟨by decide +kernel, rfl⟩
theorem d14_117 : DAt B14 117 (.aload_n 0) 1 118 := ⟨by decide +kernel, rfl⟩
theorem d14_118 : DAt B14 118 (.getfield 32) 3 121 := ⟨by decide +kernel, rfl⟩
theorem d14_121 : DAt B14 121 (.iload 6) 2 123 := ⟨by decide +kernel, rfl⟩
theorem d14_123 : DAt B14 123 (.iconst 0) 1 124 := ⟨by decide +kernel, rfl⟩
theorem d14_124 : DAt B14 124 (.bastore) 1 125 := ⟨by decide +kernel, rfl⟩
theorem d14_125 : DAt B14 125 (.iinc 5 1) 3 128 := ⟨by decide +kernel, rfl⟩
theorem d14_128 : DAt B14 128 (.goto (-110)) 3 131 := ⟨by decide +kernel, rfl⟩
theorem d14_131 : DAt B14 131 (.return_) 1 132 := ⟨by decide +kernel, rfl⟩
def B13 : Bdy := ((⟨"LogicalReplicator", "commit", "(I)I"⟩ : MethodName), prog_1_method_12_code, 5, (some .int), ({ frames := 2, cells := 0, slots := 0, locals := 26 } : Room))
theorem d13_0 : DAt B13 0 (.aload_n 0) 1 1 := ⟨by decide +kernel, rfl⟩
theorem d13_1 : DAt B13 1 (.iload_n 1) 1 2 := ⟨by decide +kernel, rfl⟩
theorem d13_2 : DAt B13 2 (.invokevirtual 112) 3 5 := ⟨by decide +kernel, rfl⟩
theorem d13_5 : DAt B13 5 (.istore_n 2) 1 6 := ⟨by decide +kernel, rfl⟩
theorem d13_6 : DAt B13 6 (.iload_n 2) 1 7 := ⟨by decide +kernel, rfl⟩
theorem d13_7 : DAt B13 7 (.ifCond .eq 5) 3 10 := ⟨by decide +kernel, rfl⟩
theorem d13_10 : DAt B13 10 (.iload_n 2) 1 11 := ⟨by decide +kernel, rfl⟩
theorem d13_11 : DAt B13 11 (.ireturn) 1 12 := ⟨by decide +kernel, rfl⟩
theorem d13_12 : DAt B13 12 (.aload_n 0) 1 13 := ⟨by decide +kernel, rfl⟩
theorem d13_13 : DAt B13 13 (.invokevirtual 101) 3 16 := ⟨by decide +kernel, rfl⟩
theorem d13_16 : DAt B13 16 (.ifCond .eq 6) 3 19 := ⟨by decide +kernel, rfl⟩
theorem d13_19 : DAt B13 19 (.bipush (-4)) 2 21 := ⟨by decide +kernel, rfl⟩
theorem d13_21 : DAt B13 21 (.ireturn) 1 22 := ⟨by decide +kernel, rfl⟩
theorem d13_22 : DAt B13 22 (.aload_n 0) 1 23 := ⟨by decide +kernel, rfl⟩
theorem d13_23 : DAt B13 23 (.getfield 29) 3 26 := ⟨by decide +kernel, rfl⟩
theorem d13_26 : DAt B13 26 (.iload_n 1) 1 27 := ⟨by decide +kernel, rfl⟩
theorem d13_27 : DAt B13 27 (.iaload) 1 28 := ⟨by decide +kernel, rfl⟩
theorem d13_28 : DAt B13 28 (.istore_n 3) 1 29 := ⟨by decide +kernel, rfl⟩
theorem d13_29 : DAt B13 29 (.aload_n 0) 1 30 := ⟨by decide +kernel, rfl⟩
theorem d13_30 : DAt B13 30 (.iconst 4) 1 31 := ⟨by decide +kernel, rfl⟩
theorem d13_31 : DAt B13 31 (.iload_n 1) 1 32 := ⟨by decide +kernel, rfl⟩
theorem d13_32 : DAt B13 32 (.iconst 0) 1 33 := ⟨by decide +kernel, rfl⟩
theorem d13_33 : DAt B13 33 (.iconst 0) 1 34 := ⟨by decide +kernel, rfl⟩
theorem d13_34 : DAt B13 34 (.invokevirtual 105) 3 37 := ⟨by decide +kernel, rfl⟩
theorem d13_37 : DAt B13 37 (.istore 4) 2 39 := ⟨by decide +kernel, rfl⟩
theorem d13_39 : DAt B13 39 (.aload_n 0) 1 40 := ⟨by decide +kernel, rfl⟩
theorem d13_40 : DAt B13 40 (.getfield 22) 3 43 := ⟨by decide +kernel, rfl⟩
theorem d13_43 : DAt B13 43 (.iload 4) 2 45 := ⟨by decide +kernel, rfl⟩
theorem d13_45 : DAt B13 45 (.iload_n 3) 1 46 := ⟨by decide +kernel, rfl⟩
theorem d13_46 : DAt B13 46 (.iastore) 1 47 := ⟨by decide +kernel, rfl⟩
theorem d13_47 : DAt B13 47 (.aload_n 0) 1 48 := ⟨by decide +kernel, rfl⟩
theorem d13_48 : DAt B13 48 (.iload_n 1) 1 49 := ⟨by decide +kernel, rfl⟩
theorem d13_49 : DAt B13 49 (.iload_n 3) 1 50 := ⟨by decide +kernel, rfl⟩
theorem d13_50 : DAt B13 50 (.iload 4) 2 52 := ⟨by decide +kernel, rfl⟩
theorem d13_52 : DAt B13 52 (.invokevirtual 119) 3 55 := ⟨by decide +kernel, rfl⟩
theorem d13_55 : DAt B13 55 (.aload_n 0) 1 56 := ⟨by decide +kernel, rfl⟩
theorem d13_56 : DAt B13 56 (.getfield 25) 3 59 := ⟨by decide +kernel, rfl⟩
theorem d13_59 : DAt B13 59 (.iload_n 1) 1 60 := ⟨by decide +kernel, rfl⟩
theorem d13_60 : DAt B13 60 (.iconst 0) 1 61 := ⟨by decide +kernel, rfl⟩
theorem d13_61 : DAt B13 61 (.bastore) 1 62 := ⟨by decide +kernel, rfl⟩
theorem d13_62 : DAt B13 62 (.iload 4) 2 64 := ⟨by decide +kernel, rfl⟩
theorem d13_64 : DAt B13 64 (.ireturn) 1 65 := ⟨by decide +kernel, rfl⟩
def B17 : Bdy := ((⟨"LogicalReplicator", "countOpen", "()I"⟩ : MethodName), prog_1_method_32_code, 3, (some .int), ({ frames := 0, cells := 0, slots := 0, locals := 0 } : Room))
theorem d17_0 : DAt B17 0 (.iconst 0) 1 1 := ⟨by decide +kernel, rfl⟩
theorem d17_1 : DAt B17 1 (.istore_n 1) 1 2 := ⟨by decide +kernel, rfl⟩
theorem d17_2 : DAt B17 2 (.iconst 0) 1 3 := ⟨by decide +kernel, rfl⟩
theorem d17_3 : DAt B17 3 (.istore_n 2) 1 4 := ⟨by decide +kernel, rfl⟩
theorem d17_4 : DAt B17 4 (.iload_n 2) 1 5 := ⟨by decide +kernel, rfl⟩
theorem d17_5 : DAt B17 5 (.aload_n 0) 1 6 := ⟨by decide +kernel, rfl⟩
theorem d17_6 : DAt B17 6 (.getfield 70) 3 9 := ⟨by decide +kernel, rfl⟩
theorem d17_9 : DAt B17 9 (.if_icmp .ge 27) 3 12 := ⟨by decide +kernel, rfl⟩
theorem d17_12 : DAt B17 12 (.iload_n 2) 1 13 := ⟨by decide +kernel, rfl⟩
theorem d17_13 : DAt B17 13 (.bipush 8) 2 15 := ⟨by decide +kernel, rfl⟩
theorem d17_15 : DAt B17 15 (.if_icmp .ge 21) 3 18 := ⟨by decide +kernel, rfl⟩
theorem d17_18 : DAt B17 18 (.aload_n 0) 1 19 := ⟨by decide +kernel, rfl⟩
theorem d17_19 : DAt B17 19 (.getfield 25) 3 22 := ⟨by decide +kernel, rfl⟩
theorem d17_22 : DAt B17 22 (.iload_n 2) 1 23 := ⟨by decide +kernel, rfl⟩
theorem d17_23 : DAt B17 23 (.baload) 1 24 := ⟨by decide +kernel, rfl⟩
theorem d17_24 : DAt B17 24 (.ifCond .eq 6) 3 27 := ⟨by decide +kernel, rfl⟩
theorem d17_27 : DAt B17 27 (.iinc 1 1) 3 30 := ⟨by decide +kernel, rfl⟩
theorem d17_30 : DAt B17 30 (.iinc 2 1) 3 33 := ⟨by decide +kernel, rfl⟩
theorem d17_33 : DAt B17 33 (.goto (-29)) 3 36 := ⟨by decide +kernel, rfl⟩
theorem d17_36 : DAt B17 36 (.iload_n 1) 1 37 := ⟨by decide +kernel, rfl⟩
theorem d17_37 : DAt B17 37 (.ireturn) 1 38 := ⟨by decide +kernel, rfl⟩
def B16 : Bdy := ((⟨"LogicalReplicator", "countPubRows", "()I"⟩ : MethodName), prog_1_method_33_code, 3, (some .int), ({ frames := 0, cells := 0, slots := 0, locals := 0 } : Room))
theorem d16_0 : DAt B16 0 (.iconst 0) 1 1 := ⟨by decide +kernel, rfl⟩
theorem d16_1 : DAt B16 1 (.istore_n 1) 1 2 := ⟨by decide +kernel, rfl⟩
theorem d16_2 : DAt B16 2 (.iconst 0) 1 3 := ⟨by decide +kernel, rfl⟩
theorem d16_3 : DAt B16 3 (.istore_n 2) 1 4 := ⟨by decide +kernel, rfl⟩
theorem d16_4 : DAt B16 4 (.iload_n 2) 1 5 := ⟨by decide +kernel, rfl⟩
theorem d16_5 : DAt B16 5 (.aload_n 0) 1 6 := ⟨by decide +kernel, rfl⟩
theorem d16_6 : DAt B16 6 (.getfield 66) 3 9 := ⟨by decide +kernel, rfl⟩
theorem d16_9 : DAt B16 9 (.if_icmp .ge 27) 3 12 := ⟨by decide +kernel, rfl⟩
theorem d16_12 : DAt B16 12 (.iload_n 2) 1 13 := ⟨by decide +kernel, rfl⟩
theorem d16_13 : DAt B16 13 (.bipush 32) 2 15 := ⟨by decide +kernel, rfl⟩
theorem d16_15 : DAt B16 15 (.if_icmp .ge 21) 3 18 := ⟨by decide +kernel, rfl⟩
theorem d16_18 : DAt B16 18 (.aload_n 0) 1 19 := ⟨by decide +kernel, rfl⟩
theorem d16_19 : DAt B16 19 (.getfield 32) 3 22 := ⟨by decide +kernel, rfl⟩
theorem d16_22 : DAt B16 22 (.iload_n 2) 1 23 := ⟨by decide +kernel, rfl⟩
theorem d16_23 : DAt B16 23 (.baload) 1 24 := ⟨by decide +kernel, rfl⟩
theorem d16_24 : DAt B16 24 (.ifCond .eq 6) 3 27 := ⟨by decide +kernel, rfl⟩
theorem d16_27 : DAt B16 27 (.iinc 1 1) 3 30 := ⟨by decide +kernel, rfl⟩
theorem d16_30 : DAt B16 30 (.iinc 2 1) 3 33 := ⟨by decide +kernel, rfl⟩
theorem d16_33 : DAt B16 33 (.goto (-29)) 3 36 := ⟨by decide +kernel, rfl⟩
theorem d16_36 : DAt B16 36 (.iload_n 1) 1 37 := ⟨by decide +kernel, rfl⟩
theorem d16_37 : DAt B16 37 (.ireturn) 1 38 := ⟨by decide +kernel, rfl⟩
def B15 : Bdy := ((⟨"LogicalReplicator", "info", "(I)I"⟩ : MethodName), prog_1_method_31_code, 2, (some .int), ({ frames := 1, cells := 0, slots := 0, locals := 14 } : Room))
theorem d15_0 : DAt B15 0 (.iload_n 1) 1 1 := ⟨by decide +kernel, rfl⟩
theorem d15_1 : DAt B15 1 (.tableswitch 87 0 7 #[47, 52, 57, 62, 67, 72, 77, 82]) 47 48 := ⟨by decide +kernel, rfl⟩
theorem d15_48 : DAt B15 48 (.aload_n 0) 1 49 := ⟨by decide +kernel, rfl⟩
theorem d15_49 : DAt B15 49 (.getfield 79) 3 52 := ⟨by decide +kernel, rfl⟩
theorem d15_52 : DAt B15 52 (.ireturn) 1 53 := ⟨by decide +kernel, rfl⟩
theorem d15_53 : DAt B15 53 (.aload_n 0) 1 54 := ⟨by decide +kernel, rfl⟩
theorem d15_54 : DAt B15 54 (.invokevirtual 153) 3 57 := ⟨by decide +kernel, rfl⟩
theorem d15_57 : DAt B15 57 (.ireturn) 1 58 := ⟨by decide +kernel, rfl⟩
theorem d15_58 : DAt B15 58 (.aload_n 0) 1 59 := ⟨by decide +kernel, rfl⟩
theorem d15_59 : DAt B15 59 (.getfield 82) 3 62 := ⟨by decide +kernel, rfl⟩
theorem d15_62 : DAt B15 62 (.ireturn) 1 63 := ⟨by decide +kernel, rfl⟩
theorem d15_63 : DAt B15 63 (.aload_n 0) 1 64 := ⟨by decide +kernel, rfl⟩
theorem d15_64 : DAt B15 64 (.getfield 94) 3 67 := ⟨by decide +kernel, rfl⟩
theorem d15_67 : DAt B15 67 (.ireturn) 1 68 := ⟨by decide +kernel, rfl⟩
theorem d15_68 : DAt B15 68 (.aload_n 0) 1 69 := ⟨by decide +kernel, rfl⟩
theorem d15_69 : DAt B15 69 (.getfield 85) 3 72 := ⟨by decide +kernel, rfl⟩
theorem d15_72 : DAt B15 72 (.ireturn) 1 73 := ⟨by decide +kernel, rfl⟩
theorem d15_73 : DAt B15 73 (.aload_n 0) 1 74 := ⟨by decide +kernel, rfl⟩
theorem d15_74 : DAt B15 74 (.getfield 88) 3 77 := ⟨by decide +kernel, rfl⟩
theorem d15_77 : DAt B15 77 (.ireturn) 1 78 := ⟨by decide +kernel, rfl⟩
theorem d15_78 : DAt B15 78 (.aload_n 0) 1 79 := ⟨by decide +kernel, rfl⟩
theorem d15_79 : DAt B15 79 (.invokevirtual 157) 3 82 := ⟨by decide +kernel, rfl⟩
theorem d15_82 : DAt B15 82 (.ireturn) 1 83 := ⟨by decide +kernel, rfl⟩
theorem d15_83 : DAt B15 83 (.aload_n 0) 1 84 := ⟨by decide +kernel, rfl⟩
theorem d15_88 : DAt B15 88 (.iconst (-1)) 1 89 := ⟨by decide +kernel, rfl⟩
theorem d15_89 : DAt B15 89 (.ireturn) 1 90 := ⟨by decide +kernel, rfl⟩
def B0 : Bdy := (x, code, maxLocals, ret, room_1)
theorem d0_0 : DAt B0 0 (.new 7) 3 3 := ⟨at_0, rfl⟩
theorem d0_3 : DAt B0 3 (.dup) 1 4 := ⟨at_3, rfl⟩
theorem d0_4 : DAt B0 4 (.iload_n 0) 1 5 := ⟨at_4, rfl⟩
theorem d0_5 : DAt B0 5 (.iconst 2) 1 6 := ⟨at_5, rfl⟩
theorem d0_6 : DAt B0 6 (.bipush 16) 2 8 := ⟨at_6, rfl⟩
theorem d0_8 : DAt B0 8 (.iconst 2) 1 9 := ⟨at_8, rfl⟩
theorem d0_9 : DAt B0 9 (.invokespecial 9) 3 12 := ⟨at_9, rfl⟩
theorem d0_12 : DAt B0 12 (.astore 4) 2 14 := ⟨at_12, rfl⟩
theorem d0_14 : DAt B0 14 (.iload_n 0) 1 15 := ⟨at_14, rfl⟩
theorem d0_15 : DAt B0 15 (.bipush 8) 2 17 := ⟨at_15, rfl⟩
theorem d0_17 : DAt B0 17 (.if_icmp .ge 8) 3 20 := ⟨at_17, rfl⟩
theorem d0_20 : DAt B0 20 (.bipush 8) 2 22 := ⟨at_20, rfl⟩
theorem d0_22 : DAt B0 22 (.goto 15) 3 25 := ⟨at_22, rfl⟩
theorem d0_25 : DAt B0 25 (.iload_n 0) 1 26 := ⟨at_25, rfl⟩
theorem d0_26 : DAt B0 26 (.bipush 32) 2 28 := ⟨at_26, rfl⟩
theorem d0_28 : DAt B0 28 (.if_icmp .le 8) 3 31 := ⟨at_28, rfl⟩
theorem d0_31 : DAt B0 31 (.bipush 32) 2 33 := ⟨at_31, rfl⟩
theorem d0_33 : DAt B0 33 (.goto 4) 3 36 := ⟨at_33, rfl⟩
theorem d0_36 : DAt B0 36 (.iload_n 0) 1 37 := ⟨at_36, rfl⟩
theorem d0_37 : DAt B0 37 (.istore 5) 2 39 := ⟨at_37, rfl⟩
theorem d0_39 : DAt B0 39 (.iload_n 1) 1 40 := ⟨at_39, rfl⟩
theorem d0_40 : DAt B0 40 (.ifCond .lt 13) 3 43 := ⟨at_40, rfl⟩
theorem d0_43 : DAt B0 43 (.iload_n 1) 1 44 := ⟨at_43, rfl⟩
theorem d0_44 : DAt B0 44 (.iload 5) 2 46 := ⟨at_44, rfl⟩
theorem d0_46 : DAt B0 46 (.if_icmp .ge 7) 3 49 := ⟨at_46, rfl⟩
theorem d0_49 : DAt B0 49 (.iconst 1) 1 50 := ⟨at_49, rfl⟩
theorem d0_50 : DAt B0 50 (.goto 4) 3 53 := ⟨at_50, rfl⟩
theorem d0_53 : DAt B0 53 (.iconst 0) 1 54 := ⟨at_53, rfl⟩
theorem d0_54 : DAt B0 54 (.istore 6) 2 56 := ⟨at_54, rfl⟩
theorem d0_56 : DAt B0 56 (.iload_n 3) 1 57 := ⟨at_56, rfl⟩
theorem d0_57 : DAt B0 57 (.ifCond .lt 13) 3 60 := ⟨at_57, rfl⟩
theorem d0_60 : DAt B0 60 (.iload_n 3) 1 61 := ⟨at_60, rfl⟩
theorem d0_61 : DAt B0 61 (.iload 5) 2 63 := ⟨at_61, rfl⟩
theorem d0_63 : DAt B0 63 (.if_icmp .ge 7) 3 66 := ⟨at_63, rfl⟩
theorem d0_66 : DAt B0 66 (.iconst 1) 1 67 := ⟨at_66, rfl⟩
theorem d0_67 : DAt B0 67 (.goto 4) 3 70 := ⟨at_67, rfl⟩
theorem d0_70 : DAt B0 70 (.iconst 0) 1 71 := ⟨at_70, rfl⟩
theorem d0_71 : DAt B0 71 (.istore 7) 2 73 := ⟨at_71, rfl⟩
theorem d0_73 : DAt B0 73 (.aload 4) 2 75 := ⟨at_73, rfl⟩
theorem d0_75 : DAt B0 75 (.iconst 0) 1 76 := ⟨at_75, rfl⟩
theorem d0_76 : DAt B0 76 (.invokevirtual 12) 3 79 := ⟨at_76, rfl⟩
theorem d0_79 : DAt B0 79 (.istore 8) 2 81 := ⟨at_79, rfl⟩
theorem d0_81 : DAt B0 81 (.aload 4) 2 83 := ⟨at_81, rfl⟩
theorem d0_83 : DAt B0 83 (.iconst 0) 1 84 := ⟨at_83, rfl⟩
theorem d0_84 : DAt B0 84 (.iload_n 1) 1 85 := ⟨at_84, rfl⟩
theorem d0_85 : DAt B0 85 (.iload_n 2) 1 86 := ⟨at_85, rfl⟩
theorem d0_86 : DAt B0 86 (.invokevirtual 16) 3 89 := ⟨at_86, rfl⟩
theorem d0_89 : DAt B0 89 (.istore 9) 2 91 := ⟨at_89, rfl⟩
theorem d0_91 : DAt B0 91 (.aload 4) 2 93 := ⟨at_91, rfl⟩
theorem d0_93 : DAt B0 93 (.iconst 0) 1 94 := ⟨at_93, rfl⟩
theorem d0_94 : DAt B0 94 (.iload_n 3) 1 95 := ⟨at_94, rfl⟩
theorem d0_95 : DAt B0 95 (.invokevirtual 20) 3 98 := ⟨at_95, rfl⟩
theorem d0_98 : DAt B0 98 (.istore 10) 2 100 := ⟨at_98, rfl⟩
theorem d0_100 : DAt B0 100 (.aload 4) 2 102 := ⟨at_100, rfl⟩
theorem d0_102 : DAt B0 102 (.iload_n 1) 1 103 := ⟨at_102, rfl⟩
theorem d0_103 : DAt B0 103 (.invokevirtual 24) 3 106 := ⟨at_103, rfl⟩
theorem d0_106 : DAt B0 106 (.lstore 11) 2 108 := ⟨at_106, rfl⟩
theorem d0_108 : DAt B0 108 (.aload 4) 2 110 := ⟨at_108, rfl⟩
theorem d0_110 : DAt B0 110 (.iconst 0) 1 111 := ⟨at_110, rfl⟩
theorem d0_111 : DAt B0 111 (.invokevirtual 28) 3 114 := ⟨at_111, rfl⟩
theorem d0_114 : DAt B0 114 (.istore 13) 2 116 := ⟨at_114, rfl⟩
theorem d0_116 : DAt B0 116 (.aload 4) 2 118 := ⟨at_116, rfl⟩
theorem d0_118 : DAt B0 118 (.iload_n 1) 1 119 := ⟨at_118, rfl⟩
theorem d0_119 : DAt B0 119 (.invokevirtual 24) 3 122 := ⟨at_119, rfl⟩
theorem d0_122 : DAt B0 122 (.lstore 14) 2 124 := ⟨at_122, rfl⟩
theorem d0_124 : DAt B0 124 (.aload 4) 2 126 := ⟨at_124, rfl⟩
theorem d0_126 : DAt B0 126 (.iload_n 3) 1 127 := ⟨at_126, rfl⟩
theorem d0_127 : DAt B0 127 (.invokevirtual 24) 3 130 := ⟨at_127, rfl⟩
theorem d0_130 : DAt B0 130 (.lstore 16) 2 132 := ⟨at_130, rfl⟩
theorem d0_132 : DAt B0 132 (.aload 4) 2 134 := ⟨at_132, rfl⟩
theorem d0_134 : DAt B0 134 (.bipush 6) 2 136 := ⟨at_134, rfl⟩
theorem d0_136 : DAt B0 136 (.invokevirtual 31) 3 139 := ⟨at_136, rfl⟩
theorem d0_139 : DAt B0 139 (.istore 18) 2 141 := ⟨at_139, rfl⟩
theorem d0_141 : DAt B0 141 (.aload 4) 2 143 := ⟨at_141, rfl⟩
theorem d0_143 : DAt B0 143 (.iconst 1) 1 144 := ⟨at_143, rfl⟩
theorem d0_144 : DAt B0 144 (.invokevirtual 31) 3 147 := ⟨at_144, rfl⟩
theorem d0_147 : DAt B0 147 (.istore 19) 2 149 := ⟨at_147, rfl⟩
theorem d0_149 : DAt B0 149 (.iload 6) 2 151 := ⟨at_149, rfl⟩
theorem d0_151 : DAt B0 151 (.ifCond .eq 7) 3 154 := ⟨at_151, rfl⟩
theorem d0_154 : DAt B0 154 (.iconst 2) 1 155 := ⟨at_154, rfl⟩
theorem d0_155 : DAt B0 155 (.goto 5) 3 158 := ⟨at_155, rfl⟩
theorem d0_158 : DAt B0 158 (.bipush (-3)) 2 160 := ⟨at_158, rfl⟩
theorem d0_160 : DAt B0 160 (.istore 20) 2 162 := ⟨at_160, rfl⟩
theorem d0_162 : DAt B0 162 (.iload 7) 2 164 := ⟨at_162, rfl⟩
theorem d0_164 : DAt B0 164 (.ifCond .eq 16) 3 167 := ⟨at_164, rfl⟩
theorem d0_167 : DAt B0 167 (.iload 6) 2 169 := ⟨at_167, rfl⟩
theorem d0_169 : DAt B0 169 (.ifCond .eq 7) 3 172 := ⟨at_169, rfl⟩
theorem d0_172 : DAt B0 172 (.iconst 3) 1 173 := ⟨at_172, rfl⟩
theorem d0_173 : DAt B0 173 (.goto 9) 3 176 := ⟨at_173, rfl⟩
theorem d0_176 : DAt B0 176 (.iconst 2) 1 177 := ⟨at_176, rfl⟩
theorem d0_177 : DAt B0 177 (.goto 5) 3 180 := ⟨at_177, rfl⟩
theorem d0_180 : DAt B0 180 (.bipush (-3)) 2 182 := ⟨at_180, rfl⟩
theorem d0_182 : DAt B0 182 (.istore 21) 2 184 := ⟨at_182, rfl⟩
theorem d0_184 : DAt B0 184 (.iconst 2) 1 185 := ⟨at_184, rfl⟩
theorem d0_185 : DAt B0 185 (.iload 6) 2 187 := ⟨at_185, rfl⟩
theorem d0_187 : DAt B0 187 (.ifCond .eq 7) 3 190 := ⟨at_187, rfl⟩
theorem d0_190 : DAt B0 190 (.iconst 1) 1 191 := ⟨at_190, rfl⟩
theorem d0_191 : DAt B0 191 (.goto 4) 3 194 := ⟨at_191, rfl⟩
theorem d0_194 : DAt B0 194 (.iconst 0) 1 195 := ⟨at_194, rfl⟩
theorem d0_195 : DAt B0 195 (.iadd) 1 196 := ⟨at_195, rfl⟩
theorem d0_196 : DAt B0 196 (.iload 7) 2 198 := ⟨at_196, rfl⟩
theorem d0_198 : DAt B0 198 (.ifCond .eq 7) 3 201 := ⟨at_198, rfl⟩
theorem d0_201 : DAt B0 201 (.iconst 1) 1 202 := ⟨at_201, rfl⟩
theorem d0_202 : DAt B0 202 (.goto 4) 3 205 := ⟨at_202, rfl⟩
theorem d0_205 : DAt B0 205 (.iconst 0) 1 206 := ⟨at_205, rfl⟩
theorem d0_206 : DAt B0 206 (.iadd) 1 207 := ⟨at_206, rfl⟩
theorem d0_207 : DAt B0 207 (.istore 22) 2 209 := ⟨at_207, rfl⟩
theorem d0_209 : DAt B0 209 (.iload 6) 2 211 := ⟨at_209, rfl⟩
theorem d0_211 : DAt B0 211 (.ifCond .eq 17) 3 214 := ⟨at_211, rfl⟩
theorem d0_214 : DAt B0 214 (.iload 7) 2 216 := ⟨at_214, rfl⟩
theorem d0_216 : DAt B0 216 (.ifCond .eq 8) 3 219 := ⟨at_216, rfl⟩
theorem d0_219 : DAt B0 219 (.iload_n 3) 1 220 := ⟨at_219, rfl⟩
theorem d0_220 : DAt B0 220 (.iload_n 1) 1 221 := ⟨at_220, rfl⟩
theorem d0_221 : DAt B0 221 (.if_icmp .eq 7) 3 224 := ⟨at_221, rfl⟩
theorem d0_224 : DAt B0 224 (.iconst 1) 1 225 := ⟨at_224, rfl⟩
theorem d0_225 : DAt B0 225 (.goto 4) 3 228 := ⟨at_225, rfl⟩
theorem d0_228 : DAt B0 228 (.iconst 0) 1 229 := ⟨at_228, rfl⟩
theorem d0_229 : DAt B0 229 (.istore 23) 2 231 := ⟨at_229, rfl⟩
theorem d0_231 : DAt B0 231 (.iload 23) 2 233 := ⟨at_231, rfl⟩
theorem d0_233 : DAt B0 233 (.ifCond .eq 8) 3 236 := ⟨at_233, rfl⟩
theorem d0_236 : DAt B0 236 (.iload_n 2) 1 237 := ⟨at_236, rfl⟩
theorem d0_237 : DAt B0 237 (.i2l) 1 238 := ⟨at_237, rfl⟩
theorem d0_238 : DAt B0 238 (.goto 6) 3 241 := ⟨at_238, rfl⟩
theorem d0_241 : DAt B0 241 (.ldc2_w 34) 3 244 := ⟨at_241, rfl⟩
theorem d0_244 : DAt B0 244 (.lstore 24) 2 246 := ⟨at_244, rfl⟩
theorem d0_246 : DAt B0 246 (.iload 23) 2 248 := ⟨at_246, rfl⟩
theorem d0_248 : DAt B0 248 (.ifCond .eq 7) 3 251 := ⟨at_248, rfl⟩
theorem d0_251 : DAt B0 251 (.iconst 1) 1 252 := ⟨at_251, rfl⟩
theorem d0_252 : DAt B0 252 (.goto 4) 3 255 := ⟨at_252, rfl⟩
theorem d0_255 : DAt B0 255 (.iconst 0) 1 256 := ⟨at_255, rfl⟩
theorem d0_256 : DAt B0 256 (.istore 26) 2 258 := ⟨at_256, rfl⟩
theorem d0_258 : DAt B0 258 (.iload 8) 2 260 := ⟨at_258, rfl⟩
theorem d0_260 : DAt B0 260 (.iconst 1) 1 261 := ⟨at_260, rfl⟩
theorem d0_261 : DAt B0 261 (.if_icmp .ne 66) 3 264 := ⟨at_261, rfl⟩
theorem d0_264 : DAt B0 264 (.iload 9) 2 266 := ⟨at_264, rfl⟩
theorem d0_266 : DAt B0 266 (.iload 20) 2 268 := ⟨at_266, rfl⟩
theorem d0_268 : DAt B0 268 (.if_icmp .ne 59) 3 271 := ⟨at_268, rfl⟩
theorem d0_271 : DAt B0 271 (.iload 10) 2 273 := ⟨at_271, rfl⟩
theorem d0_273 : DAt B0 273 (.iload 21) 2 275 := ⟨at_273, rfl⟩
theorem d0_275 : DAt B0 275 (.if_icmp .ne 52) 3 278 := ⟨at_275, rfl⟩
theorem d0_278 : DAt B0 278 (.lload 11) 2 280 := ⟨at_278, rfl⟩
theorem d0_280 : DAt B0 280 (.ldc2_w 34) 3 283 := ⟨at_280, rfl⟩
theorem d0_283 : DAt B0 283 (.lcmp) 1 284 := ⟨at_283, rfl⟩
theorem d0_284 : DAt B0 284 (.ifCond .ne 43) 3 287 := ⟨at_284, rfl⟩
theorem d0_287 : DAt B0 287 (.iload 13) 2 289 := ⟨at_287, rfl⟩
theorem d0_289 : DAt B0 289 (.iload 22) 2 291 := ⟨at_289, rfl⟩
theorem d0_291 : DAt B0 291 (.if_icmp .ne 36) 3 294 := ⟨at_291, rfl⟩
theorem d0_294 : DAt B0 294 (.lload 14) 2 296 := ⟨at_294, rfl⟩
theorem d0_296 : DAt B0 296 (.lload 24) 2 298 := ⟨at_296, rfl⟩
theorem d0_298 : DAt B0 298 (.lcmp) 1 299 := ⟨at_298, rfl⟩
theorem d0_299 : DAt B0 299 (.ifCond .ne 28) 3 302 := ⟨at_299, rfl⟩
theorem d0_302 : DAt B0 302 (.lload 16) 2 304 := ⟨at_302, rfl⟩
theorem d0_304 : DAt B0 304 (.ldc2_w 34) 3 307 := ⟨at_304, rfl⟩
theorem d0_307 : DAt B0 307 (.lcmp) 1 308 := ⟨at_307, rfl⟩
theorem d0_308 : DAt B0 308 (.ifCond .ne 19) 3 311 := ⟨at_308, rfl⟩
theorem d0_311 : DAt B0 311 (.iload 18) 2 313 := ⟨at_311, rfl⟩
theorem d0_313 : DAt B0 313 (.iload 26) 2 315 := ⟨at_313, rfl⟩
theorem d0_315 : DAt B0 315 (.if_icmp .ne 12) 3 318 := ⟨at_315, rfl⟩
theorem d0_318 : DAt B0 318 (.iload 19) 2 320 := ⟨at_318, rfl⟩
theorem d0_320 : DAt B0 320 (.ifCond .ne 7) 3 323 := ⟨at_320, rfl⟩
theorem d0_323 : DAt B0 323 (.iconst 1) 1 324 := ⟨at_323, rfl⟩
theorem d0_324 : DAt B0 324 (.goto 4) 3 327 := ⟨at_324, rfl⟩
theorem d0_327 : DAt B0 327 (.iconst 0) 1 328 := ⟨at_327, rfl⟩
theorem d0_328 : DAt B0 328 (.ireturn) 1 329 := ⟨at_328, rfl⟩
theorem ar1 : arity B1 4 := ⟨[.int, .int, .int, .int], none, by decide +kernel, rfl⟩
theorem ar2 : arity B2 3 := ⟨[.int, .int, .int], some .int, by decide +kernel, rfl⟩
theorem ar3 : arity B3 1 := ⟨[.int], some .int, by decide +kernel, rfl⟩
theorem ar4 : arity B4 1 := ⟨[.int], some .boolean, by decide +kernel, rfl⟩
theorem ar5 : arity B5 0 := ⟨[], some .boolean, by decide +kernel, rfl⟩
theorem ar6 : arity B6 4 := ⟨[.int, .int, .int, .int], some .int, by decide +kernel, rfl⟩
theorem ar7 : arity B7 3 := ⟨[.int, .int, .int], some .int, by decide +kernel, rfl⟩
theorem ar8 : arity B8 4 := ⟨[.int, .int, .int, .int], some .int, by decide +kernel, rfl⟩
theorem ar9 : arity B9 1 := ⟨[.int], some .int, by decide +kernel, rfl⟩
theorem ar10 : arity B10 1 := ⟨[.int], some .boolean, by decide +kernel, rfl⟩
theorem ar11 : arity B11 2 := ⟨[.int, .int], some .int, by decide +kernel, rfl⟩
theorem ar12 : arity B12 1 := ⟨[.int], some .long, by decide +kernel, rfl⟩
theorem ar13 : arity B13 1 := ⟨[.int], some .int, by decide +kernel, rfl⟩
theorem ar14 : arity B14 3 := ⟨[.int, .int, .int], none, by decide +kernel, rfl⟩
theorem ar15 : arity B15 1 := ⟨[.int], some .int, by decide +kernel, rfl⟩
theorem ar16 : arity B16 0 := ⟨[], some .int, by decide +kernel, rfl⟩
theorem ar17 : arity B17 0 := ⟨[], some .int, by decide +kernel, rfl⟩
theorem cw1 : code_w B1 := ⟨mem1 5 rfl, mem1 2 rfl, by decide⟩
theorem cw2 : code_w B2 := ⟨mem1 48 rfl, mem1 2 rfl, by decide⟩
theorem cw3 : code_w B3 := ⟨mem1 73 rfl, mem1 2 rfl, by decide⟩
theorem cw4 : code_w B4 := ⟨mem1 77 rfl, mem1 2 rfl, by decide⟩
theorem cw5 : code_w B5 := ⟨mem1 81 rfl, mem1 2 rfl, by decide⟩
theorem cw6 : code_w B6 := ⟨mem1 85 rfl, mem1 2 rfl, by decide⟩
theorem cw7 : code_w B7 := ⟨mem1 90 rfl, mem1 2 rfl, by decide⟩
theorem cw8 : code_w B8 := ⟨mem1 94 rfl, mem1 2 rfl, by decide⟩
theorem cw9 : code_w B9 := ⟨mem1 98 rfl, mem1 2 rfl, by decide⟩
theorem cw10 : code_w B10 := ⟨mem1 102 rfl, mem1 2 rfl, by decide⟩
theorem cw11 : code_w B11 := ⟨mem1 107 rfl, mem1 2 rfl, by decide⟩
theorem cw12 : code_w B12 := ⟨mem1 112 rfl, mem1 2 rfl, by decide⟩
theorem cw13 : code_w B13 := ⟨mem1 118 rfl, mem1 2 rfl, by decide⟩
theorem cw14 : code_w B14 := ⟨mem1 122 rfl, mem1 2 rfl, by decide⟩
theorem cw15 : code_w B15 := ⟨mem1 127 rfl, mem1 2 rfl, by decide⟩
theorem cw16 : code_w B16 := ⟨mem1 131 rfl, mem1 2 rfl, by decide⟩
theorem cw17 : code_w B17 := ⟨mem1 135 rfl, mem1 2 rfl, by decide⟩
theorem rk0_3_0 : room_ok B0 B3 0 := by decide
theorem rk0_7_0 : room_ok B0 B7 0 := by decide
theorem rk0_11_0 : room_ok B0 B11 0 := by decide
theorem rk0_12_0 : room_ok B0 B12 0 := by decide
theorem rk0_13_0 : room_ok B0 B13 0 := by decide
theorem rk0_15_0 : room_ok B0 B15 0 := by decide
theorem rk1_2_1 : room_ok B1 B2 1 := by decide
theorem rk3_4_0 : room_ok B3 B4 0 := by decide
theorem rk3_5_0 : room_ok B3 B5 0 := by decide
theorem rk3_6_0 : room_ok B3 B6 0 := by decide
theorem rk7_8_0 : room_ok B7 B8 0 := by decide
theorem rk8_5_0 : room_ok B8 B5 0 := by decide
theorem rk8_6_0 : room_ok B8 B6 0 := by decide
theorem rk8_9_0 : room_ok B8 B9 0 := by decide
theorem rk8_10_0 : room_ok B8 B10 0 := by decide
theorem rk9_4_0 : room_ok B9 B4 0 := by decide
theorem rk11_8_0 : room_ok B11 B8 0 := by decide
theorem rk12_10_0 : room_ok B12 B10 0 := by decide
theorem rk13_5_0 : room_ok B13 B5 0 := by decide
theorem rk13_6_0 : room_ok B13 B6 0 := by decide
theorem rk13_9_0 : room_ok B13 B9 0 := by decide
theorem rk13_14_0 : room_ok B13 B14 0 := by decide
theorem rk15_16_0 : room_ok B15 B16 0 := by decide
theorem rk15_17_0 : room_ok B15 B17 0 := by decide
def X_clamp (ob : Rec) (i1 : Int32) (i2 : Int32) (i3 : Int32) : Option (Int32) :=
  if i1 < i2 then
    some i2
  else
    if i3 < i1 then
      some i3
    else
      some i1
set_option maxRecDepth 65536 in
set_option maxHeartbeats 4000000 in
theorem X_clamp_p {C : Ctx} {top : Nat} {a : Nat} {H : List (Nat × Nat × Rec)} {ob : Rec} {res : Int32} (i1 : Int32) (i2 : Int32) (i3 : Int32) (hf : X_clamp ob i1 i2 i3 = some res) : Runs C B2 0 0 0 [vr a, vi i1, vi i2, vi i3] [] (top, (a, 17, ob) :: H) (Ans (some (.int res)) (top, (a, 17, ob) :: H)) := by
  delta X_clamp at hf
  refine Runs.iloadN d2_0 rfl <| Runs.iloadN d2_1 rfl <| ?_
  refine ite_el hf (fun hc1 hf => ?_) (fun hc1 hf => ?_)
  · refine Runs.icN d2_2 (tlt hc1).2.1 <| ?_
    obtain rfl := Option.some.inj hf
    exact Runs.iloadN d2_5 rfl <| Runs.retI d2_6 rfl ⟨by decide, by decide⟩ ⟨rfl, rfl⟩
  · refine Runs.icY (pc' := 7) d2_2 (flt hc1).2.1 (by decide) <| ?_
    refine Runs.iloadN d2_7 rfl <| Runs.iloadN d2_8 rfl <| ?_
    refine ite_el hf (fun hc2 hf => ?_) (fun hc2 hf => ?_)
    · refine Runs.icN d2_9 (tlt hc2).2.2.2 <| ?_
      obtain rfl := Option.some.inj hf
      exact Runs.iloadN d2_12 rfl <| Runs.retI d2_13 rfl ⟨by decide, by decide⟩ ⟨rfl, rfl⟩
    · refine Runs.icY (pc' := 14) d2_9 (flt hc2).2.2.2 (by decide) <| ?_
      obtain rfl := Option.some.inj hf
      exact Runs.iloadN d2_14 rfl <| Runs.retI d2_15 rfl ⟨by decide, by decide⟩ ⟨rfl, rfl⟩
theorem X_clamp_pay {C : Ctx} {top : Nat} {a : Nat} {H : List (Nat × Nat × Rec)} {ob : Rec} {res : Int32} {i1 : Int32} {i2 : Int32} {i3 : Int32} (hf : X_clamp ob i1 i2 i3 = some res) : Pays C B2 [.ref a, .int i1, .int i2, .int i3] (top, (a, 17, ob) :: H) (Ans (some (.int res)) (top, (a, 17, ob) :: H)) :=
  Pays.of pnK (Nat.le_of_ble_eq_true rfl) (P := [vr a, vi i1, vi i2, vi i3]) 0 rfl (X_clamp_p i1 i2 i3 hf)
def X_init (i1 : Int32) (i2 : Int32) (i3 : Int32) (i4 : Int32) : Option (Rec) :=
  (X_clamp zrec i1 (8 : Int32) (32 : Int32)).bind fun r1 =>
  (X_clamp (sI zrec 0 r1) i2 (2 : Int32) (8 : Int32)).bind fun r3 =>
  (X_clamp (sI (sI zrec 0 r1) 1 r3) i3 (16 : Int32) (128 : Int32)).bind fun r5 =>
  (X_clamp (sI (sI (sI zrec 0 r1) 1 r3) 2 r5) i4 (2 : Int32) (32 : Int32)).bind fun r7 =>
  some (sI (sI (sI (sI (sI (sI (sI (sI (sI (sI zrec 0 r1) 1 r3) 2 r5) 3 r7) 4 (0 : Int32)) 5 (0 : Int32)) 6 (0 : Int32)) 7 (0 : Int32)) 8 (0 : Int32)) 9 (0 : Int32))
set_option maxRecDepth 65536 in
set_option maxHeartbeats 4000000 in
theorem X_init_p {C : Ctx} {a : Nat} {H : List (Nat × Nat × Rec)} {res : Rec} (i1 : Int32) (i2 : Int32) (i3 : Int32) (i4 : Int32) (hf : X_init i1 i2 i3 i4 = some res) : Runs C B1 0 0 0 [vr a, vi i1, vi i2, vi i3, vi i4] [] (a + 1, (a, 0, zrec) :: H) (Ans none (a + 1 + 17, (a, 17, res) :: H)) := by
  delta X_init at hf
  refine Runs.aloadN d1_0 rfl <| Runs.initO (W := 0) d1_1 w6 w7 w8 rfl (by decide) <| Runs.aloadN d1_4 rfl <| Runs.sipush d1_5 cs_129 <| Runs.newArr (j' := 1) (top' := a + 1 + 1) (k' := 1) (n' := 129) d1_8 d1_10 fA_0 w10 rfl w9 (Or.inl w11) rfl (by decide) ⟨by decide, by decide⟩ ⟨fun _ => rfl, fun _ => rfl⟩ rfl rfl rfl (by decide) <| Runs.aloadN d1_13 rfl <| Runs.sipush d1_14 cs_129 <| Runs.newArr (j' := 2) (top' := a + 1 + 2) (k' := 2) (n' := 258) d1_17 d1_19 fA_1 w12 rfl w9 (Or.inl w13) rfl (by decide) ⟨by decide, by decide⟩ ⟨fun _ => rfl, fun _ => rfl⟩ rfl rfl rfl (by decide) <| Runs.aloadN d1_22 rfl <| Runs.sipush d1_23 cs_129 <| Runs.newArr (j' := 3) (top' := a + 1 + 3) (k' := 3) (n' := 387) d1_26 d1_28 fA_2 w14 rfl w9 (Or.inl w15) rfl (by decide) ⟨by decide, by decide⟩ ⟨fun _ => rfl, fun _ => rfl⟩ rfl rfl rfl (by decide) <| Runs.aloadN d1_31 rfl <| ?_
  refine Runs.sipush d1_32 cs_129 <| Runs.newArr (j' := 4) (top' := a + 1 + 4) (k' := 4) (n' := 516) d1_35 d1_37 fA_3 w16 rfl w9 (Or.inl w17) rfl (by decide) ⟨by decide, by decide⟩ ⟨fun _ => rfl, fun _ => rfl⟩ rfl rfl rfl (by decide) <| Runs.aloadN d1_40 rfl <| Runs.sipush d1_41 cs_129 <| Runs.newArr (j' := 5) (top' := a + 1 + 5) (k' := 5) (n' := 645) d1_44 d1_46 fA_4 w18 rfl w9 (Or.inl w19) rfl (by decide) ⟨by decide, by decide⟩ ⟨fun _ => rfl, fun _ => rfl⟩ rfl rfl rfl (by decide) <| Runs.aloadN d1_49 rfl <| Runs.bipush d1_50 cb_8 <| Runs.newArr (j' := 6) (top' := a + 1 + 6) (k' := 6) (n' := 653) d1_52 d1_54 fA_5 w21 rfl w20 (Or.inl w22) rfl (by decide) ⟨by decide, by decide⟩ ⟨fun _ => rfl, fun _ => rfl⟩ rfl rfl rfl (by decide) <| Runs.aloadN d1_57 rfl <| Runs.bipush d1_58 cb_8 <| Runs.newArr (j' := 7) (top' := a + 1 + 7) (k' := 7) (n' := 661) d1_60 d1_62 fA_6 w23 rfl w9 (Or.inl w24) rfl (by decide) ⟨by decide, by decide⟩ ⟨fun _ => rfl, fun _ => rfl⟩ rfl rfl rfl (by decide) <| Runs.aloadN d1_65 rfl <| ?_
  refine Runs.bipush d1_66 cb_32 <| Runs.newArr (j' := 8) (top' := a + 1 + 8) (k' := 8) (n' := 693) d1_68 d1_70 fA_7 w25 rfl w20 (Or.inl w26) rfl (by decide) ⟨by decide, by decide⟩ ⟨fun _ => rfl, fun _ => rfl⟩ rfl rfl rfl (by decide) <| Runs.aloadN d1_73 rfl <| Runs.bipush d1_74 cb_32 <| Runs.newArr (j' := 9) (top' := a + 1 + 9) (k' := 9) (n' := 725) d1_76 d1_78 fA_8 w27 rfl w9 (Or.inl w28) rfl (by decide) ⟨by decide, by decide⟩ ⟨fun _ => rfl, fun _ => rfl⟩ rfl rfl rfl (by decide) <| Runs.aloadN d1_81 rfl <| Runs.bipush d1_82 cb_32 <| Runs.newArr (j' := 10) (top' := a + 1 + 10) (k' := 10) (n' := 757) d1_84 d1_86 fA_9 w29 rfl w20 (Or.inl w30) rfl (by decide) ⟨by decide, by decide⟩ ⟨fun _ => rfl, fun _ => rfl⟩ rfl rfl rfl (by decide) <| Runs.aloadN d1_89 rfl <| Runs.bipush d1_90 cb_32 <| Runs.newArr (j' := 11) (top' := a + 1 + 11) (k' := 11) (n' := 789) d1_92 d1_94 fA_10 w31 rfl w9 (Or.inl w32) rfl (by decide) ⟨by decide, by decide⟩ ⟨fun _ => rfl, fun _ => rfl⟩ rfl rfl rfl (by decide) <| Runs.aloadN d1_97 rfl <| ?_
  refine Runs.bipush d1_98 cb_32 <| Runs.newArr (j' := 12) (top' := a + 1 + 12) (k' := 12) (n' := 821) d1_100 d1_102 fA_11 w33 rfl w9 (Or.inl w34) rfl (by decide) ⟨by decide, by decide⟩ ⟨fun _ => rfl, fun _ => rfl⟩ rfl rfl rfl (by decide) <| Runs.aloadN d1_105 rfl <| Runs.bipush d1_106 cb_32 <| Runs.newArr (j' := 13) (top' := a + 1 + 13) (k' := 13) (n' := 853) d1_108 d1_110 fA_12 w35 rfl w9 (Or.inl w36) rfl (by decide) ⟨by decide, by decide⟩ ⟨fun _ => rfl, fun _ => rfl⟩ rfl rfl rfl (by decide) <| Runs.aloadN d1_113 rfl <| Runs.sipush d1_114 cs_128 <| Runs.newArr (j' := 14) (top' := a + 1 + 14) (k' := 14) (n' := 981) d1_117 d1_119 fA_13 w37 rfl w9 (Or.inl w38) rfl (by decide) ⟨by decide, by decide⟩ ⟨fun _ => rfl, fun _ => rfl⟩ rfl rfl rfl (by decide) <| Runs.aloadN d1_122 rfl <| Runs.sipush d1_123 cs_128 <| Runs.newArr (j' := 15) (top' := a + 1 + 15) (k' := 15) (n' := 1109) d1_126 d1_128 fA_14 w39 rfl w9 (Or.inl w40) rfl (by decide) ⟨by decide, by decide⟩ ⟨fun _ => rfl, fun _ => rfl⟩ rfl rfl rfl (by decide) <| Runs.aloadN d1_131 rfl <| ?_
  refine Runs.sipush d1_132 cs_128 <| Runs.newArr (j' := 16) (top' := a + 1 + 16) (k' := 16) (n' := 1237) d1_135 d1_137 fA_15 w41 rfl w9 (Or.inl w42) rfl (by decide) ⟨by decide, by decide⟩ ⟨fun _ => rfl, fun _ => rfl⟩ rfl rfl rfl (by decide) <| Runs.aloadN d1_140 rfl <| Runs.sipush d1_141 cs_128 <| Runs.newArr (j' := 17) (top' := a + 1 + 17) (k' := 17) (n' := 1365) d1_144 d1_146 fA_16 w43 rfl w9 (Or.inl w44) rfl (by decide) ⟨by decide, by decide⟩ ⟨fun _ => rfl, fun _ => rfl⟩ rfl rfl rfl (by decide) <| Runs.aloadN d1_149 rfl <| Runs.aloadN d1_150 rfl <| Runs.iloadN d1_151 rfl <| Runs.bipush d1_152 cb_8 <| Runs.bipush d1_154 cb_32 <| ?_
  refine bind_el hf fun r1 hg2 hf => ?_
  refine Runs.callP (N := B2) (W := 1) (as := [.int i1, .int (8 : Int32), .int (32 : Int32)]) (S' := [.ref a]) d1_156 w45 w46 w47 rfl cw2 ar2 rk1_2_1 (by decide) rfl rfl (X_clamp_pay hg2) <| ans1 <| Runs.putI d1_159 w49 fS_0 (Or.inl w50) <| Runs.aloadN d1_162 rfl <| Runs.aloadN d1_163 rfl <| Runs.iloadN d1_164 rfl <| Runs.iconst d1_165 ci_2 <| Runs.bipush d1_166 cb_8 <| ?_
  refine bind_el hf fun r3 hg4 hf => ?_
  refine Runs.callP (N := B2) (W := 1) (as := [.int i2, .int (2 : Int32), .int (8 : Int32)]) (S' := [.ref a]) d1_168 w45 w46 w47 rfl cw2 ar2 rk1_2_1 (by decide) rfl rfl (X_clamp_pay hg4) <| ans1 <| Runs.putI d1_171 w51 fS_1 (Or.inl w52) <| Runs.aloadN d1_174 rfl <| Runs.aloadN d1_175 rfl <| Runs.iloadN d1_176 rfl <| Runs.bipush d1_177 cb_16 <| Runs.sipush d1_179 cs_128 <| ?_
  refine bind_el hf fun r5 hg6 hf => ?_
  refine Runs.callP (N := B2) (W := 1) (as := [.int i3, .int (16 : Int32), .int (128 : Int32)]) (S' := [.ref a]) d1_182 w45 w46 w47 rfl cw2 ar2 rk1_2_1 (by decide) rfl rfl (X_clamp_pay hg6) <| ans1 <| Runs.putI d1_185 w53 fS_2 (Or.inl w54) <| Runs.aloadN d1_188 rfl <| Runs.aloadN d1_189 rfl <| Runs.iload d1_190 rfl <| Runs.iconst d1_192 ci_2 <| Runs.bipush d1_193 cb_32 <| ?_
  refine bind_el hf fun r7 hg8 hf => ?_
  refine Runs.callP (N := B2) (W := 1) (as := [.int i4, .int (2 : Int32), .int (32 : Int32)]) (S' := [.ref a]) d1_195 w45 w46 w47 rfl cw2 ar2 rk1_2_1 (by decide) rfl rfl (X_clamp_pay hg8) <| ans1 <| Runs.putI d1_198 w55 fS_3 (Or.inl w56) <| Runs.aloadN d1_201 rfl <| Runs.iconst d1_202 ci_0 <| Runs.putI d1_203 w57 fS_4 (Or.inl w58) <| Runs.aloadN d1_206 rfl <| Runs.iconst d1_207 ci_0 <| Runs.putI d1_208 w59 fS_5 (Or.inl w60) <| Runs.aloadN d1_211 rfl <| Runs.iconst d1_212 ci_0 <| Runs.putI d1_213 w61 fS_6 (Or.inl w62) <| Runs.aloadN d1_216 rfl <| ?_
  obtain rfl := Option.some.inj hf
  exact Runs.iconst d1_217 ci_0 <| Runs.putI d1_218 w63 fS_7 (Or.inl w64) <| Runs.aloadN d1_221 rfl <| Runs.iconst d1_222 ci_0 <| Runs.putI d1_223 w65 fS_8 (Or.inl w66) <| Runs.aloadN d1_226 rfl <| Runs.iconst d1_227 ci_0 <| Runs.putI d1_228 w67 fS_9 (Or.inl w68) <| Runs.retV d1_231 rfl ⟨by decide, by decide⟩ ⟨rfl, rfl⟩
theorem X_init_pay {C : Ctx} {a : Nat} {H : List (Nat × Nat × Rec)} {res : Rec} {i1 : Int32} {i2 : Int32} {i3 : Int32} {i4 : Int32} (hf : X_init i1 i2 i3 i4 = some res) : Pays C B1 [.ref a, .int i1, .int i2, .int i3, .int i4] (a + 1, (a, 0, zrec) :: H) (Ans none (a + 1 + 17, (a, 17, res) :: H)) :=
  Pays.of pnK (Nat.le_of_ble_eq_true rfl) (P := [vr a, vi i1, vi i2, vi i3, vi i4]) 0 rfl (X_init_p i1 i2 i3 i4 hf)
def X_validSlot (ob : Rec) (i1 : Int32) : Option (Int32) :=
  if i1 < (0 : Int32) then
    some (0 : Int32)
  else
    if i1 < (gI ob 1) then
      if i1 < (8 : Int32) then
        some (1 : Int32)
      else
        some (0 : Int32)
    else
      some (0 : Int32)
set_option maxRecDepth 65536 in
set_option maxHeartbeats 4000000 in
theorem X_validSlot_p {C : Ctx} {top : Nat} {a : Nat} {H : List (Nat × Nat × Rec)} {ob : Rec} {res : Int32} (i1 : Int32) (hf : X_validSlot ob i1 = some res) : Runs C B4 0 0 0 [vr a, vi i1] [] (top, (a, 17, ob) :: H) (Ans (some (.int res)) (top, (a, 17, ob) :: H)) := by
  delta X_validSlot at hf
  refine Runs.iloadN d4_0 rfl <| ?_
  refine ite_el hf (fun hc1 hf => ?_) (fun hc1 hf => ?_)
  · refine Runs.ifY (pc' := 22) d4_1 (tlt hc1).1 (by decide) <| ?_
    obtain rfl := Option.some.inj hf
    exact Runs.iconst d4_22 ci_0 <| Runs.retZ (y := (0 : Int32)) d4_23 rfl ⟨by decide, by decide⟩ rfl ⟨rfl, rfl⟩
  · refine Runs.ifN d4_1 (flt hc1).1 <| ?_
    refine Runs.iloadN d4_4 rfl <| Runs.aloadN d4_5 rfl <| Runs.getI d4_6 w51 fS_1 <| ?_
    refine ite_el hf (fun hc2 hf => ?_) (fun hc2 hf => ?_)
    · refine Runs.icN d4_9 (tlt hc2).2.1 <| ?_
      refine Runs.iloadN d4_12 rfl <| Runs.bipush d4_13 cb_8 <| ?_
      refine ite_el hf (fun hc3 hf => ?_) (fun hc3 hf => ?_)
      · refine Runs.icN d4_15 (tlt hc3).2.1 <| ?_
        obtain rfl := Option.some.inj hf
        exact Runs.iconst d4_18 ci_1 <| Runs.goto (pc' := 23) d4_19 (by decide) <| Runs.retZ (y := (1 : Int32)) d4_23 rfl ⟨by decide, by decide⟩ rfl ⟨rfl, rfl⟩
      · refine Runs.icY (pc' := 22) d4_15 (flt hc3).2.1 (by decide) <| ?_
        obtain rfl := Option.some.inj hf
        exact Runs.iconst d4_22 ci_0 <| Runs.retZ (y := (0 : Int32)) d4_23 rfl ⟨by decide, by decide⟩ rfl ⟨rfl, rfl⟩
    · refine Runs.icY (pc' := 22) d4_9 (flt hc2).2.1 (by decide) <| ?_
      obtain rfl := Option.some.inj hf
      exact Runs.iconst d4_22 ci_0 <| Runs.retZ (y := (0 : Int32)) d4_23 rfl ⟨by decide, by decide⟩ rfl ⟨rfl, rfl⟩
theorem X_validSlot_pay {C : Ctx} {top : Nat} {a : Nat} {H : List (Nat × Nat × Rec)} {ob : Rec} {res : Int32} {i1 : Int32} (hf : X_validSlot ob i1 = some res) : Pays C B4 [.ref a, .int i1] (top, (a, 17, ob) :: H) (Ans (some (.int res)) (top, (a, 17, ob) :: H)) :=
  Pays.of pnK (Nat.le_of_ble_eq_true rfl) (P := [vr a, vi i1]) 0 rfl (X_validSlot_p i1 hf)
def X_logFull (ob : Rec) : Option (Int32) :=
  if (gI ob 4) < (gI ob 2) then
    if (gI ob 4) < (128 : Int32) then
      some (0 : Int32)
    else
      some (1 : Int32)
  else
    some (1 : Int32)
set_option maxRecDepth 65536 in
set_option maxHeartbeats 4000000 in
theorem X_logFull_p {C : Ctx} {top : Nat} {a : Nat} {H : List (Nat × Nat × Rec)} {ob : Rec} {res : Int32} (hf : X_logFull ob = some res) : Runs C B5 0 0 0 [vr a] [] (top, (a, 17, ob) :: H) (Ans (some (.int res)) (top, (a, 17, ob) :: H)) := by
  delta X_logFull at hf
  refine Runs.aloadN d5_0 rfl <| Runs.getI d5_1 w57 fS_4 <| Runs.aloadN d5_4 rfl <| Runs.getI d5_5 w53 fS_2 <| ?_
  refine ite_el hf (fun hc1 hf => ?_) (fun hc1 hf => ?_)
  · refine Runs.icN d5_8 (tlt hc1).2.1 <| ?_
    refine Runs.aloadN d5_11 rfl <| Runs.getI d5_12 w57 fS_4 <| Runs.sipush d5_15 cs_128 <| ?_
    refine ite_el hf (fun hc2 hf => ?_) (fun hc2 hf => ?_)
    · refine Runs.icY (pc' := 25) d5_18 (tlt hc2).1 (by decide) <| ?_
      obtain rfl := Option.some.inj hf
      exact Runs.iconst d5_25 ci_0 <| Runs.retZ (y := (0 : Int32)) d5_26 rfl ⟨by decide, by decide⟩ rfl ⟨rfl, rfl⟩
    · refine Runs.icN d5_18 (flt hc2).1 <| ?_
      obtain rfl := Option.some.inj hf
      exact Runs.iconst d5_21 ci_1 <| Runs.goto (pc' := 26) d5_22 (by decide) <| Runs.retZ (y := (1 : Int32)) d5_26 rfl ⟨by decide, by decide⟩ rfl ⟨rfl, rfl⟩
  · refine Runs.icY (pc' := 21) d5_8 (flt hc1).2.1 (by decide) <| ?_
    obtain rfl := Option.some.inj hf
    exact Runs.iconst d5_21 ci_1 <| Runs.goto (pc' := 26) d5_22 (by decide) <| Runs.retZ (y := (1 : Int32)) d5_26 rfl ⟨by decide, by decide⟩ rfl ⟨rfl, rfl⟩
theorem X_logFull_pay {C : Ctx} {top : Nat} {a : Nat} {H : List (Nat × Nat × Rec)} {ob : Rec} {res : Int32} (hf : X_logFull ob = some res) : Pays C B5 [.ref a] (top, (a, 17, ob) :: H) (Ans (some (.int res)) (top, (a, 17, ob) :: H)) :=
  Pays.of pnK (Nat.le_of_ble_eq_true rfl) (P := [vr a]) 0 rfl (X_logFull_p hf)
def X_append (ob : Rec) (i1 : Int32) (i2 : Int32) (i3 : Int32) (i4 : Int32) : Option (Int32 × Rec) :=
  chk (129 : Int32) ((gI ob 4) + (1 : Int32)) <|
  chk (129 : Int32) ((gI ob 4) + (1 : Int32)) <|
  chk (129 : Int32) ((gI ob 4) + (1 : Int32)) <|
  chk (129 : Int32) ((gI ob 4) + (1 : Int32)) <|
  chk (129 : Int32) ((gI ob 4) + (1 : Int32)) <|
  some (((gI ob 4) + (1 : Int32)), (sA (sA (sA (sA (sA (sI ob 4 ((gI ob 4) + (1 : Int32))) 0 ((gI ob 4) + (1 : Int32)) i1) 1 ((gI ob 4) + (1 : Int32)) i2) 2 ((gI ob 4) + (1 : Int32)) i3) 3 ((gI ob 4) + (1 : Int32)) i4) 4 ((gI ob 4) + (1 : Int32)) (0 : Int32)))
set_option maxRecDepth 65536 in
set_option maxHeartbeats 4000000 in
theorem X_append_p {C : Ctx} {top : Nat} {a : Nat} {H : List (Nat × Nat × Rec)} {res : Int32 × Rec} (ob : Rec) (i1 : Int32) (i2 : Int32) (i3 : Int32) (i4 : Int32) (hf : X_append ob i1 i2 i3 i4 = some res) : Runs C B6 0 0 0 [vr a, vi i1, vi i2, vi i3, vi i4] [] (top, (a, 17, ob) :: H) (Ans (some (.int res.1)) (top, (a, 17, res.2) :: H)) := by
  delta X_append at hf
  refine Runs.aloadN d6_0 rfl <| Runs.dup d6_1 rfl <| Runs.getI d6_2 w57 fS_4 <| Runs.iconst d6_5 ci_1 <| Runs.iadd d6_6 <| Runs.putI d6_7 w57 fS_4 (Or.inl w58) <| Runs.aloadN d6_10 rfl <| Runs.getA d6_11 fA_0 w10 (by decide) <| Runs.aloadN d6_14 rfl <| Runs.getI d6_15 w57 fS_4 <| Runs.iloadN d6_18 rfl <| ?_
  refine chk_el hf fun hi1 hf => ?_
  refine Runs.iastoreA d6_19 fA_0 (by decide) hi1 <| Runs.aloadN d6_20 rfl <| Runs.getA d6_21 fA_1 w12 (by decide) <| Runs.aloadN d6_24 rfl <| Runs.getI d6_25 w57 fS_4 <| Runs.iloadN d6_28 rfl <| ?_
  refine chk_el hf fun hi2 hf => ?_
  refine Runs.iastoreA d6_29 fA_1 (by decide) hi2 <| Runs.aloadN d6_30 rfl <| Runs.getA d6_31 fA_2 w14 (by decide) <| Runs.aloadN d6_34 rfl <| Runs.getI d6_35 w57 fS_4 <| Runs.iloadN d6_38 rfl <| ?_
  refine chk_el hf fun hi3 hf => ?_
  refine Runs.iastoreA d6_39 fA_2 (by decide) hi3 <| Runs.aloadN d6_40 rfl <| Runs.getA d6_41 fA_3 w16 (by decide) <| Runs.aloadN d6_44 rfl <| Runs.getI d6_45 w57 fS_4 <| Runs.iload d6_48 rfl <| ?_
  refine chk_el hf fun hi4 hf => ?_
  refine Runs.iastoreA d6_50 fA_3 (by decide) hi4 <| Runs.aloadN d6_51 rfl <| Runs.getA d6_52 fA_4 w18 (by decide) <| Runs.aloadN d6_55 rfl <| Runs.getI d6_56 w57 fS_4 <| Runs.iconst d6_59 ci_0 <| ?_
  refine chk_el hf fun hi5 hf => ?_
  obtain rfl := Option.some.inj hf
  exact Runs.iastoreA d6_60 fA_4 (by decide) hi5 <| Runs.aloadN d6_61 rfl <| Runs.getI d6_62 w57 fS_4 <| Runs.retI d6_65 rfl ⟨by decide, by decide⟩ ⟨rfl, rfl⟩
theorem X_append_pay {C : Ctx} {top : Nat} {a : Nat} {H : List (Nat × Nat × Rec)} {res : Int32 × Rec} {ob : Rec} {i1 : Int32} {i2 : Int32} {i3 : Int32} {i4 : Int32} (hf : X_append ob i1 i2 i3 i4 = some res) : Pays C B6 [.ref a, .int i1, .int i2, .int i3, .int i4] (top, (a, 17, ob) :: H) (Ans (some (.int res.1)) (top, (a, 17, res.2) :: H)) :=
  Pays.of pnK (Nat.le_of_ble_eq_true rfl) (P := [vr a, vi i1, vi i2, vi i3, vi i4]) 0 rfl (X_append_p ob i1 i2 i3 i4 hf)
def X_begin (ob : Rec) (i1 : Int32) : Option (Int32 × Rec) :=
  (X_validSlot ob i1).bind fun r1 =>
  if r1 = (0 : Int32) then
    some ((-1 : Int32), ob)
  else
    chk (8 : Int32) i1 <|
    if (gA ob 5 i1) = (0 : Int32) then
      (X_logFull ob).bind fun r6 =>
      if r6 = (0 : Int32) then
        bind2 (X_append ob (1 : Int32) i1 (0 : Int32) (0 : Int32)) fun r9 q10 =>
        chk (8 : Int32) i1 <|
        chk (8 : Int32) i1 <|
        some (r9, (sA (sA q10 5 i1 (1 : Int32)) 6 i1 r9))
      else
        some ((-4 : Int32), ob)
    else
      some ((-2 : Int32), ob)
set_option maxRecDepth 65536 in
set_option maxHeartbeats 4000000 in
theorem X_begin_p {C : Ctx} {top : Nat} {a : Nat} {H : List (Nat × Nat × Rec)} {res : Int32 × Rec} (ob : Rec) (i1 : Int32) (hf : X_begin ob i1 = some res) : Runs C B3 0 0 0 [vr a, vi i1, vn] [] (top, (a, 17, ob) :: H) (Ans (some (.int res.1)) (top, (a, 17, res.2) :: H)) := by
  delta X_begin at hf
  refine Runs.aloadN d3_0 rfl <| Runs.iloadN d3_1 rfl <| ?_
  refine bind_el hf fun r1 hg2 hf => ?_
  refine Runs.callP (N := B4) (W := 0) (as := [.int i1]) (S' := []) d3_2 w74 w75 w76 rfl cw4 ar4 rk3_4_0 (by decide) rfl rfl (X_validSlot_pay hg2) <| ans1 <| ?_
  refine ite_el hf (fun hc3 hf => ?_) (fun hc3 hf => ?_)
  · refine Runs.ifN d3_5 (teq hc3).2 <| ?_
    obtain rfl := Option.some.inj hf
    exact Runs.iconst d3_8 ci_m1 <| Runs.retI d3_9 rfl ⟨by decide, by decide⟩ ⟨rfl, rfl⟩
  · refine Runs.ifY (pc' := 10) d3_5 (feq hc3).2 (by decide) <| ?_
    refine Runs.aloadN d3_10 rfl <| Runs.getA d3_11 fA_5 w21 (by decide) <| Runs.iloadN d3_14 rfl <| ?_
    refine chk_el hf fun hi4 hf => ?_
    refine Runs.baloadA d3_15 fA_5 (by decide) hi4 <| ?_
    refine ite_el hf (fun hc5 hf => ?_) (fun hc5 hf => ?_)
    · refine Runs.ifY (pc' := 22) d3_16 (teq hc5).1 (by decide) <| ?_
      refine Runs.aloadN d3_22 rfl <| ?_
      refine bind_el hf fun r6 hg7 hf => ?_
      refine Runs.callP (N := B5) (W := 0) (as := []) (S' := []) d3_23 w78 w79 w80 rfl cw5 ar5 rk3_5_0 (by decide) rfl rfl (X_logFull_pay hg7) <| ans1 <| ?_
      refine ite_el hf (fun hc8 hf => ?_) (fun hc8 hf => ?_)
      · refine Runs.ifY (pc' := 32) d3_26 (teq hc8).1 (by decide) <| ?_
        refine Runs.aloadN d3_32 rfl <| Runs.iconst d3_33 ci_1 <| Runs.iloadN d3_34 rfl <| Runs.iconst d3_35 ci_0 <| Runs.iconst d3_36 ci_0 <| ?_
        refine bind2_el hf fun r9 q10 hg11 hf => ?_
        refine Runs.callP (N := B6) (W := 0) (as := [.int (1 : Int32), .int i1, .int (0 : Int32), .int (0 : Int32)]) (S' := []) d3_37 w82 w83 w84 rfl cw6 ar6 rk3_6_0 (by decide) rfl rfl (X_append_pay hg11) <| ans1 <| Runs.istoreN (P' := [vr a, vi i1, vi r9]) d3_40 (by decide) rfl <| Runs.aloadN d3_41 rfl <| Runs.getA d3_42 fA_5 w21 (by decide) <| Runs.iloadN d3_45 rfl <| Runs.iconst d3_46 ci_1 <| ?_
        refine chk_el hf fun hi12 hf => ?_
        refine Runs.bastoreA (y := (1 : Int32)) d3_47 fA_5 (by decide) hi12 rfl <| Runs.aloadN d3_48 rfl <| Runs.getA d3_49 fA_6 w23 (by decide) <| Runs.iloadN d3_52 rfl <| Runs.iloadN d3_53 rfl <| ?_
        refine chk_el hf fun hi13 hf => ?_
        obtain rfl := Option.some.inj hf
        exact Runs.iastoreA d3_54 fA_6 (by decide) hi13 <| Runs.iloadN d3_55 rfl <| Runs.retI d3_56 rfl ⟨by decide, by decide⟩ ⟨rfl, rfl⟩
      · refine Runs.ifN d3_26 (feq hc8).1 <| ?_
        obtain rfl := Option.some.inj hf
        exact Runs.bipush d3_29 cb_m4 <| Runs.retI d3_31 rfl ⟨by decide, by decide⟩ ⟨rfl, rfl⟩
    · refine Runs.ifN d3_16 (feq hc5).1 <| ?_
      obtain rfl := Option.some.inj hf
      exact Runs.bipush d3_19 cb_m2 <| Runs.retI d3_21 rfl ⟨by decide, by decide⟩ ⟨rfl, rfl⟩
theorem X_begin_pay {C : Ctx} {top : Nat} {a : Nat} {H : List (Nat × Nat × Rec)} {res : Int32 × Rec} {ob : Rec} {i1 : Int32} (hf : X_begin ob i1 = some res) : Pays C B3 [.ref a, .int i1] (top, (a, 17, ob) :: H) (Ans (some (.int res.1)) (top, (a, 17, res.2) :: H)) :=
  Pays.of pnK (Nat.le_of_ble_eq_true rfl) (P := [vr a, vi i1, vn]) 1 rfl (X_begin_p ob i1 hf)
def X_checkOpenSlot (ob : Rec) (i1 : Int32) : Option (Int32) :=
  (X_validSlot ob i1).bind fun r1 =>
  if r1 = (0 : Int32) then
    some (-1 : Int32)
  else
    chk (8 : Int32) i1 <|
    if (gA ob 5 i1) = (0 : Int32) then
      some (-2 : Int32)
    else
      some (0 : Int32)
set_option maxRecDepth 65536 in
set_option maxHeartbeats 4000000 in
theorem X_checkOpenSlot_p {C : Ctx} {top : Nat} {a : Nat} {H : List (Nat × Nat × Rec)} {ob : Rec} {res : Int32} (i1 : Int32) (hf : X_checkOpenSlot ob i1 = some res) : Runs C B9 0 0 0 [vr a, vi i1] [] (top, (a, 17, ob) :: H) (Ans (some (.int res)) (top, (a, 17, ob) :: H)) := by
  delta X_checkOpenSlot at hf
  refine Runs.aloadN d9_0 rfl <| Runs.iloadN d9_1 rfl <| ?_
  refine bind_el hf fun r1 hg2 hf => ?_
  refine Runs.callP (N := B4) (W := 0) (as := [.int i1]) (S' := []) d9_2 w74 w75 w76 rfl cw4 ar4 rk9_4_0 (by decide) rfl rfl (X_validSlot_pay hg2) <| ans1 <| ?_
  refine ite_el hf (fun hc3 hf => ?_) (fun hc3 hf => ?_)
  · refine Runs.ifN d9_5 (teq hc3).2 <| ?_
    obtain rfl := Option.some.inj hf
    exact Runs.iconst d9_8 ci_m1 <| Runs.retI d9_9 rfl ⟨by decide, by decide⟩ ⟨rfl, rfl⟩
  · refine Runs.ifY (pc' := 10) d9_5 (feq hc3).2 (by decide) <| ?_
    refine Runs.aloadN d9_10 rfl <| Runs.getA d9_11 fA_5 w21 (by decide) <| Runs.iloadN d9_14 rfl <| ?_
    refine chk_el hf fun hi4 hf => ?_
    refine Runs.baloadA d9_15 fA_5 (by decide) hi4 <| ?_
    refine ite_el hf (fun hc5 hf => ?_) (fun hc5 hf => ?_)
    · refine Runs.ifN d9_16 (teq hc5).2 <| ?_
      obtain rfl := Option.some.inj hf
      exact Runs.bipush d9_19 cb_m2 <| Runs.retI d9_21 rfl ⟨by decide, by decide⟩ ⟨rfl, rfl⟩
    · refine Runs.ifY (pc' := 22) d9_16 (feq hc5).2 (by decide) <| ?_
      obtain rfl := Option.some.inj hf
      exact Runs.iconst d9_22 ci_0 <| Runs.retI d9_23 rfl ⟨by decide, by decide⟩ ⟨rfl, rfl⟩
theorem X_checkOpenSlot_pay {C : Ctx} {top : Nat} {a : Nat} {H : List (Nat × Nat × Rec)} {ob : Rec} {res : Int32} {i1 : Int32} (hf : X_checkOpenSlot ob i1 = some res) : Pays C B9 [.ref a, .int i1] (top, (a, 17, ob) :: H) (Ans (some (.int res)) (top, (a, 17, ob) :: H)) :=
  Pays.of pnK (Nat.le_of_ble_eq_true rfl) (P := [vr a, vi i1]) 0 rfl (X_checkOpenSlot_p i1 hf)
def X_validKey (ob : Rec) (i1 : Int32) : Option (Int32) :=
  if i1 < (0 : Int32) then
    some (0 : Int32)
  else
    if i1 < (gI ob 0) then
      if i1 < (32 : Int32) then
        some (1 : Int32)
      else
        some (0 : Int32)
    else
      some (0 : Int32)
set_option maxRecDepth 65536 in
set_option maxHeartbeats 4000000 in
theorem X_validKey_p {C : Ctx} {top : Nat} {a : Nat} {H : List (Nat × Nat × Rec)} {ob : Rec} {res : Int32} (i1 : Int32) (hf : X_validKey ob i1 = some res) : Runs C B10 0 0 0 [vr a, vi i1] [] (top, (a, 17, ob) :: H) (Ans (some (.int res)) (top, (a, 17, ob) :: H)) := by
  delta X_validKey at hf
  refine Runs.iloadN d10_0 rfl <| ?_
  refine ite_el hf (fun hc1 hf => ?_) (fun hc1 hf => ?_)
  · refine Runs.ifY (pc' := 22) d10_1 (tlt hc1).1 (by decide) <| ?_
    obtain rfl := Option.some.inj hf
    exact Runs.iconst d10_22 ci_0 <| Runs.retZ (y := (0 : Int32)) d10_23 rfl ⟨by decide, by decide⟩ rfl ⟨rfl, rfl⟩
  · refine Runs.ifN d10_1 (flt hc1).1 <| ?_
    refine Runs.iloadN d10_4 rfl <| Runs.aloadN d10_5 rfl <| Runs.getI d10_6 w49 fS_0 <| ?_
    refine ite_el hf (fun hc2 hf => ?_) (fun hc2 hf => ?_)
    · refine Runs.icN d10_9 (tlt hc2).2.1 <| ?_
      refine Runs.iloadN d10_12 rfl <| Runs.bipush d10_13 cb_32 <| ?_
      refine ite_el hf (fun hc3 hf => ?_) (fun hc3 hf => ?_)
      · refine Runs.icN d10_15 (tlt hc3).2.1 <| ?_
        obtain rfl := Option.some.inj hf
        exact Runs.iconst d10_18 ci_1 <| Runs.goto (pc' := 23) d10_19 (by decide) <| Runs.retZ (y := (1 : Int32)) d10_23 rfl ⟨by decide, by decide⟩ rfl ⟨rfl, rfl⟩
      · refine Runs.icY (pc' := 22) d10_15 (flt hc3).2.1 (by decide) <| ?_
        obtain rfl := Option.some.inj hf
        exact Runs.iconst d10_22 ci_0 <| Runs.retZ (y := (0 : Int32)) d10_23 rfl ⟨by decide, by decide⟩ rfl ⟨rfl, rfl⟩
    · refine Runs.icY (pc' := 22) d10_9 (flt hc2).2.1 (by decide) <| ?_
      obtain rfl := Option.some.inj hf
      exact Runs.iconst d10_22 ci_0 <| Runs.retZ (y := (0 : Int32)) d10_23 rfl ⟨by decide, by decide⟩ rfl ⟨rfl, rfl⟩
theorem X_validKey_pay {C : Ctx} {top : Nat} {a : Nat} {H : List (Nat × Nat × Rec)} {ob : Rec} {res : Int32} {i1 : Int32} (hf : X_validKey ob i1 = some res) : Pays C B10 [.ref a, .int i1] (top, (a, 17, ob) :: H) (Ans (some (.int res)) (top, (a, 17, ob) :: H)) :=
  Pays.of pnK (Nat.le_of_ble_eq_true rfl) (P := [vr a, vi i1]) 0 rfl (X_validKey_p i1 hf)
def X_write (ob : Rec) (i1 : Int32) (i2 : Int32) (i3 : Int32) (i4 : Int32) : Option (Int32 × Rec) :=
  (X_checkOpenSlot ob i2).bind fun r1 =>
  if r1 = (0 : Int32) then
    (X_validKey ob i3).bind fun r4 =>
    if r4 = (0 : Int32) then
      some ((-3 : Int32), ob)
    else
      (X_logFull ob).bind fun r7 =>
      if r7 = (0 : Int32) then
        bind2 (X_append ob i1 i2 i3 i4) fun r10 q11 =>
        some (r10, q11)
      else
        some ((-4 : Int32), ob)
  else
    some (r1, ob)
set_option maxRecDepth 65536 in
set_option maxHeartbeats 4000000 in
theorem X_write_p {C : Ctx} {top : Nat} {a : Nat} {H : List (Nat × Nat × Rec)} {res : Int32 × Rec} (ob : Rec) (i1 : Int32) (i2 : Int32) (i3 : Int32) (i4 : Int32) (hf : X_write ob i1 i2 i3 i4 = some res) : Runs C B8 0 0 0 [vr a, vi i1, vi i2, vi i3, vi i4, vn] [] (top, (a, 17, ob) :: H) (Ans (some (.int res.1)) (top, (a, 17, res.2) :: H)) := by
  delta X_write at hf
  refine Runs.aloadN d8_0 rfl <| Runs.iloadN d8_1 rfl <| ?_
  refine bind_el hf fun r1 hg2 hf => ?_
  refine Runs.callP (N := B9) (W := 0) (as := [.int i2]) (S' := []) d8_2 w95 w96 w97 rfl cw9 ar9 rk8_9_0 (by decide) rfl rfl (X_checkOpenSlot_pay hg2) <| ans1 <| Runs.istore (P' := [vr a, vi i1, vi i2, vi i3, vi i4, vi r1]) d8_5 (by decide) rfl <| Runs.iload d8_7 rfl <| ?_
  refine ite_el hf (fun hc3 hf => ?_) (fun hc3 hf => ?_)
  · refine Runs.ifY (pc' := 15) d8_9 (teq hc3).1 (by decide) <| ?_
    refine Runs.aloadN d8_15 rfl <| Runs.iloadN d8_16 rfl <| ?_
    refine bind_el hf fun r4 hg5 hf => ?_
    refine Runs.callP (N := B10) (W := 0) (as := [.int i3]) (S' := []) d8_17 w99 w100 w101 rfl cw10 ar10 rk8_10_0 (by decide) rfl rfl (X_validKey_pay hg5) <| ans1 <| ?_
    refine ite_el hf (fun hc6 hf => ?_) (fun hc6 hf => ?_)
    · refine Runs.ifN d8_20 (teq hc6).2 <| ?_
      obtain rfl := Option.some.inj hf
      exact Runs.bipush d8_23 cb_m3 <| Runs.retI d8_25 rfl ⟨by decide, by decide⟩ ⟨rfl, rfl⟩
    · refine Runs.ifY (pc' := 26) d8_20 (feq hc6).2 (by decide) <| ?_
      refine Runs.aloadN d8_26 rfl <| ?_
      refine bind_el hf fun r7 hg8 hf => ?_
      refine Runs.callP (N := B5) (W := 0) (as := []) (S' := []) d8_27 w78 w79 w80 rfl cw5 ar5 rk8_5_0 (by decide) rfl rfl (X_logFull_pay hg8) <| ans1 <| ?_
      refine ite_el hf (fun hc9 hf => ?_) (fun hc9 hf => ?_)
      · refine Runs.ifY (pc' := 36) d8_30 (teq hc9).1 (by decide) <| ?_
        refine Runs.aloadN d8_36 rfl <| Runs.iloadN d8_37 rfl <| Runs.iloadN d8_38 rfl <| Runs.iloadN d8_39 rfl <| Runs.iload d8_40 rfl <| ?_
        refine bind2_el hf fun r10 q11 hg12 hf => ?_
        obtain rfl := Option.some.inj hf
        exact Runs.callP (N := B6) (W := 0) (as := [.int i1, .int i2, .int i3, .int i4]) (S' := []) d8_42 w82 w83 w84 rfl cw6 ar6 rk8_6_0 (by decide) rfl rfl (X_append_pay hg12) <| ans1 <| Runs.retI d8_45 rfl ⟨by decide, by decide⟩ ⟨rfl, rfl⟩
      · refine Runs.ifN d8_30 (feq hc9).1 <| ?_
        obtain rfl := Option.some.inj hf
        exact Runs.bipush d8_33 cb_m4 <| Runs.retI d8_35 rfl ⟨by decide, by decide⟩ ⟨rfl, rfl⟩
  · refine Runs.ifN d8_9 (feq hc3).1 <| ?_
    obtain rfl := Option.some.inj hf
    exact Runs.iload d8_12 rfl <| Runs.retI d8_14 rfl ⟨by decide, by decide⟩ ⟨rfl, rfl⟩
theorem X_write_pay {C : Ctx} {top : Nat} {a : Nat} {H : List (Nat × Nat × Rec)} {res : Int32 × Rec} {ob : Rec} {i1 : Int32} {i2 : Int32} {i3 : Int32} {i4 : Int32} (hf : X_write ob i1 i2 i3 i4 = some res) : Pays C B8 [.ref a, .int i1, .int i2, .int i3, .int i4] (top, (a, 17, ob) :: H) (Ans (some (.int res.1)) (top, (a, 17, res.2) :: H)) :=
  Pays.of pnK (Nat.le_of_ble_eq_true rfl) (P := [vr a, vi i1, vi i2, vi i3, vi i4, vn]) 1 rfl (X_write_p ob i1 i2 i3 i4 hf)
def X_put (ob : Rec) (i1 : Int32) (i2 : Int32) (i3 : Int32) : Option (Int32 × Rec) :=
  bind2 (X_write ob (2 : Int32) i1 i2 i3) fun r1 q2 =>
  some (r1, q2)
set_option maxRecDepth 65536 in
set_option maxHeartbeats 4000000 in
theorem X_put_p {C : Ctx} {top : Nat} {a : Nat} {H : List (Nat × Nat × Rec)} {res : Int32 × Rec} (ob : Rec) (i1 : Int32) (i2 : Int32) (i3 : Int32) (hf : X_put ob i1 i2 i3 = some res) : Runs C B7 0 0 0 [vr a, vi i1, vi i2, vi i3] [] (top, (a, 17, ob) :: H) (Ans (some (.int res.1)) (top, (a, 17, res.2) :: H)) := by
  delta X_put at hf
  refine Runs.aloadN d7_0 rfl <| Runs.iconst d7_1 ci_2 <| Runs.iloadN d7_2 rfl <| Runs.iloadN d7_3 rfl <| Runs.iloadN d7_4 rfl <| ?_
  refine bind2_el hf fun r1 q2 hg3 hf => ?_
  obtain rfl := Option.some.inj hf
  exact Runs.callP (N := B8) (W := 0) (as := [.int (2 : Int32), .int i1, .int i2, .int i3]) (S' := []) d7_5 w91 w92 w93 rfl cw8 ar8 rk7_8_0 (by decide) rfl rfl (X_write_pay hg3) <| ans1 <| Runs.retI d7_8 rfl ⟨by decide, by decide⟩ ⟨rfl, rfl⟩
theorem X_put_pay {C : Ctx} {top : Nat} {a : Nat} {H : List (Nat × Nat × Rec)} {res : Int32 × Rec} {ob : Rec} {i1 : Int32} {i2 : Int32} {i3 : Int32} (hf : X_put ob i1 i2 i3 = some res) : Pays C B7 [.ref a, .int i1, .int i2, .int i3] (top, (a, 17, ob) :: H) (Ans (some (.int res.1)) (top, (a, 17, res.2) :: H)) :=
  Pays.of pnK (Nat.le_of_ble_eq_true rfl) (P := [vr a, vi i1, vi i2, vi i3]) 0 rfl (X_put_p ob i1 i2 i3 hf)
def X_del (ob : Rec) (i1 : Int32) (i2 : Int32) : Option (Int32 × Rec) :=
  bind2 (X_write ob (3 : Int32) i1 i2 (0 : Int32)) fun r1 q2 =>
  some (r1, q2)
set_option maxRecDepth 65536 in
set_option maxHeartbeats 4000000 in
theorem X_del_p {C : Ctx} {top : Nat} {a : Nat} {H : List (Nat × Nat × Rec)} {res : Int32 × Rec} (ob : Rec) (i1 : Int32) (i2 : Int32) (hf : X_del ob i1 i2 = some res) : Runs C B11 0 0 0 [vr a, vi i1, vi i2] [] (top, (a, 17, ob) :: H) (Ans (some (.int res.1)) (top, (a, 17, res.2) :: H)) := by
  delta X_del at hf
  refine Runs.aloadN d11_0 rfl <| Runs.iconst d11_1 ci_3 <| Runs.iloadN d11_2 rfl <| Runs.iloadN d11_3 rfl <| Runs.iconst d11_4 ci_0 <| ?_
  refine bind2_el hf fun r1 q2 hg3 hf => ?_
  obtain rfl := Option.some.inj hf
  exact Runs.callP (N := B8) (W := 0) (as := [.int (3 : Int32), .int i1, .int i2, .int (0 : Int32)]) (S' := []) d11_5 w91 w92 w93 rfl cw8 ar8 rk11_8_0 (by decide) rfl rfl (X_write_pay hg3) <| ans1 <| Runs.retI d11_8 rfl ⟨by decide, by decide⟩ ⟨rfl, rfl⟩
theorem X_del_pay {C : Ctx} {top : Nat} {a : Nat} {H : List (Nat × Nat × Rec)} {res : Int32 × Rec} {ob : Rec} {i1 : Int32} {i2 : Int32} (hf : X_del ob i1 i2 = some res) : Pays C B11 [.ref a, .int i1, .int i2] (top, (a, 17, ob) :: H) (Ans (some (.int res.1)) (top, (a, 17, res.2) :: H)) :=
  Pays.of pnK (Nat.le_of_ble_eq_true rfl) (P := [vr a, vi i1, vi i2]) 0 rfl (X_del_p ob i1 i2 hf)
def X_pubRow (ob : Rec) (i1 : Int32) : Option (Int64) :=
  (X_validKey ob i1).bind fun r1 =>
  if r1 = (0 : Int32) then
    some (4294967296 : Int64)
  else
    chk (32 : Int32) i1 <|
    if (gA ob 7 i1) = (0 : Int32) then
      some (4294967296 : Int64)
    else
      chk (32 : Int32) i1 <|
      some (gA ob 8 i1).toInt64
set_option maxRecDepth 65536 in
set_option maxHeartbeats 4000000 in
theorem X_pubRow_p {C : Ctx} {top : Nat} {a : Nat} {H : List (Nat × Nat × Rec)} {ob : Rec} {res : Int64} (i1 : Int32) (hf : X_pubRow ob i1 = some res) : Runs C B12 0 0 0 [vr a, vi i1] [] (top, (a, 17, ob) :: H) (Ans (some (.long res)) (top, (a, 17, ob) :: H)) := by
  delta X_pubRow at hf
  refine Runs.aloadN d12_0 rfl <| Runs.iloadN d12_1 rfl <| ?_
  refine bind_el hf fun r1 hg2 hf => ?_
  refine Runs.callP (N := B10) (W := 0) (as := [.int i1]) (S' := []) d12_2 w99 w100 w101 rfl cw10 ar10 rk12_10_0 (by decide) rfl rfl (X_validKey_pay hg2) <| ans1 <| ?_
  refine ite_el hf (fun hc3 hf => ?_) (fun hc3 hf => ?_)
  · refine Runs.ifN d12_5 (teq hc3).2 <| ?_
    obtain rfl := Option.some.inj hf
    exact Runs.ldc2 d12_8 w113 <| Runs.retJ d12_11 rfl ⟨by decide, by decide⟩ ⟨rfl, rfl⟩
  · refine Runs.ifY (pc' := 12) d12_5 (feq hc3).2 (by decide) <| ?_
    refine Runs.aloadN d12_12 rfl <| Runs.getA d12_13 fA_7 w25 (by decide) <| Runs.iloadN d12_16 rfl <| ?_
    refine chk_el hf fun hi4 hf => ?_
    refine Runs.baloadA d12_17 fA_7 (by decide) hi4 <| ?_
    refine ite_el hf (fun hc5 hf => ?_) (fun hc5 hf => ?_)
    · refine Runs.ifY (pc' := 29) d12_18 (teq hc5).1 (by decide) <| ?_
      obtain rfl := Option.some.inj hf
      exact Runs.ldc2 d12_29 w113 <| Runs.retJ d12_32 rfl ⟨by decide, by decide⟩ ⟨rfl, rfl⟩
    · refine Runs.ifN d12_18 (feq hc5).1 <| ?_
      refine Runs.aloadN d12_21 rfl <| Runs.getA d12_22 fA_8 w27 (by decide) <| Runs.iloadN d12_25 rfl <| ?_
      refine chk_el hf fun hi6 hf => ?_
      obtain rfl := Option.some.inj hf
      exact Runs.ialoadA d12_26 fA_8 (by decide) hi6 <| Runs.i2l d12_27 <| Runs.retJ d12_28 rfl ⟨by decide, by decide⟩ ⟨rfl, rfl⟩
theorem X_pubRow_pay {C : Ctx} {top : Nat} {a : Nat} {H : List (Nat × Nat × Rec)} {ob : Rec} {res : Int64} {i1 : Int32} (hf : X_pubRow ob i1 = some res) : Pays C B12 [.ref a, .int i1] (top, (a, 17, ob) :: H) (Ans (some (.long res)) (top, (a, 17, ob) :: H)) :=
  Pays.of pnK (Nat.le_of_ble_eq_true rfl) (P := [vr a, vi i1]) 0 rfl (X_pubRow_p i1 hf)
def X_applyToPublisher_w18 (NF : Nat) (k18 : Rec → Int32 → Int32 → Int32 → Option (Rec)) (ob : Rec) (i1 : Int32) (i3 : Int32) (i5 : Int32) : Option (Rec) :=
  if i5 < i3 then
    if i5 < (129 : Int32) then
      chk (129 : Int32) i5 <|
      if (gA ob 1 i5) = i1 then
        chk (129 : Int32) i5 <|
        if (gA ob 2 i5) < (0 : Int32) then
          k18 ob i1 i3 (i5 + (1 : Int32))
        else
          if (gA ob 2 i5) < (32 : Int32) then
            chk (129 : Int32) i5 <|
            if (gA ob 0 i5) = (2 : Int32) then
              chk (32 : Int32) (gA ob 2 i5) <|
              chk (129 : Int32) i5 <|
              chk (32 : Int32) (gA ob 2 i5) <|
              k18 (sA (sA ob 7 (gA ob 2 i5) (1 : Int32)) 8 (gA ob 2 i5) (gA ob 3 i5)) i1 i3 (i5 + (1 : Int32))
            else
              chk (129 : Int32) i5 <|
              if (gA ob 0 i5) = (3 : Int32) then
                chk (32 : Int32) (gA ob 2 i5) <|
                k18 (sA ob 7 (gA ob 2 i5) (0 : Int32)) i1 i3 (i5 + (1 : Int32))
              else
                k18 ob i1 i3 (i5 + (1 : Int32))
          else
            k18 ob i1 i3 (i5 + (1 : Int32))
      else
        k18 ob i1 i3 (i5 + (1 : Int32))
    else
      some ob
  else
    some ob
def X_applyToPublisher_l18 (NF : Nat) : Nat → Rec → Int32 → Int32 → Int32 → Option (Rec)
  | 0, _, _, _, _ => none
  | n + 1, ob, i1, i3, i5 => X_applyToPublisher_w18 NF (X_applyToPublisher_l18 NF n) ob i1 i3 i5
set_option maxRecDepth 65536 in
set_option maxHeartbeats 4000000 in
theorem X_applyToPublisher_w18_p {C : Ctx} {top : Nat} {a : Nat} {H : List (Nat × Nat × Rec)} {res : Rec} {NF : Nat} (k18 : Rec → Int32 → Int32 → Int32 → Option (Rec)) (hk18 : ∀ (ob : Rec) (i1 : Int32) (i3 : Int32) (i5 : Int32), k18 ob i1 i3 i5 = some res → Runs C B14 0 0 18 [vr a, vi i1, vn, vi i3, vn, vi i5, vn] [] (top, (a, 17, ob) :: H) (Ans none (top, (a, 17, res) :: H))) (ob : Rec) (i1 : Int32) (i3 : Int32) (i5 : Int32) (hf : X_applyToPublisher_w18 NF k18 ob i1 i3 i5 = some res) : Runs C B14 0 0 18 [vr a, vi i1, vn, vi i3, vn, vi i5, vn] [] (top, (a, 17, ob) :: H) (Ans none (top, (a, 17, res) :: H)) := by
  delta X_applyToPublisher_w18 at hf
  refine Runs.iload d14_18 rfl <| Runs.iloadN d14_20 rfl <| ?_
  refine ite_el hf (fun hc1 hf => ?_) (fun hc1 hf => ?_)
  · refine Runs.icN d14_21 (tlt hc1).2.1 <| ?_
    refine Runs.iload d14_24 rfl <| Runs.sipush d14_26 cs_129 <| ?_
    refine ite_el hf (fun hc2 hf => ?_) (fun hc2 hf => ?_)
    · refine Runs.icN d14_29 (tlt hc2).2.1 <| ?_
      refine Runs.aloadN d14_32 rfl <| Runs.getA d14_33 fA_1 w12 (by decide) <| Runs.iload d14_36 rfl <| ?_
      refine chk_el hf fun hi3 hf => ?_
      refine Runs.ialoadA d14_38 fA_1 (by decide) hi3 <| Runs.iloadN d14_39 rfl <| ?_
      refine ite_el hf (fun hc4 hf => ?_) (fun hc4 hf => ?_)
      · refine Runs.icY (pc' := 46) d14_40 (teq hc4).1 (by decide) <| ?_
        refine Runs.aloadN d14_46 rfl <| Runs.getA d14_47 fA_2 w14 (by decide) <| Runs.iload d14_50 rfl <| ?_
        refine chk_el hf fun hi5 hf => ?_
        refine Runs.ialoadA d14_52 fA_2 (by decide) hi5 <| Runs.istore (P' := [vr a, vi i1, vn, vi i3, vn, vi i5, vi (gA ob 2 i5)]) d14_53 (by decide) rfl <| Runs.iload d14_55 rfl <| ?_
        refine ite_el hf (fun hc6 hf => ?_) (fun hc6 hf => ?_)
        · refine Runs.ifY (pc' := 125) d14_57 (tlt hc6).1 (by decide) <| ?_
          exact Runs.iinc (P' := [vr a, vi i1, vn, vi i3, vn, vi (i5 + (1 : Int32)), vi (gA ob 2 i5)]) d14_125 ci_1 rfl (by decide) rfl <| Runs.goto (pc' := 18) d14_128 (by decide) <| Runs.forget [true, true, false, true, false, true, false] rfl <| hk18 ob i1 i3 (i5 + (1 : Int32)) hf
        · refine Runs.ifN d14_57 (flt hc6).1 <| ?_
          refine Runs.iload d14_60 rfl <| Runs.bipush d14_62 cb_32 <| ?_
          refine ite_el hf (fun hc7 hf => ?_) (fun hc7 hf => ?_)
          · refine Runs.icY (pc' := 70) d14_64 (tlt hc7).1 (by decide) <| ?_
            refine Runs.aloadN d14_70 rfl <| Runs.getA d14_71 fA_0 w10 (by decide) <| Runs.iload d14_74 rfl <| ?_
            refine chk_el hf fun hi8 hf => ?_
            refine Runs.ialoadA d14_76 fA_0 (by decide) hi8 <| Runs.iconst d14_77 ci_2 <| ?_
            refine ite_el hf (fun hc9 hf => ?_) (fun hc9 hf => ?_)
            · refine Runs.icN d14_78 (teq hc9).2 <| ?_
              refine Runs.aloadN d14_81 rfl <| Runs.getA d14_82 fA_7 w25 (by decide) <| Runs.iload d14_85 rfl <| Runs.iconst d14_87 ci_1 <| ?_
              refine chk_el hf fun hi10 hf => ?_
              refine Runs.bastoreA (y := (1 : Int32)) d14_88 fA_7 (by decide) hi10 rfl <| Runs.aloadN d14_89 rfl <| Runs.getA d14_90 fA_8 w27 (by decide) <| Runs.iload d14_93 rfl <| Runs.aloadN d14_95 rfl <| Runs.getA d14_96 fA_3 w16 (by decide) <| Runs.iload d14_99 rfl <| ?_
              refine chk_el hf fun hi11 hf => ?_
              refine Runs.ialoadA d14_101 fA_3 (by decide) hi11 <| ?_
              refine chk_el hf fun hi12 hf => ?_
              exact Runs.iastoreA d14_102 fA_8 (by decide) hi12 <| Runs.goto (pc' := 125) d14_103 (by decide) <| Runs.iinc (P' := [vr a, vi i1, vn, vi i3, vn, vi (i5 + (1 : Int32)), vi (gA ob 2 i5)]) d14_125 ci_1 rfl (by decide) rfl <| Runs.goto (pc' := 18) d14_128 (by decide) <| Runs.forget [true, true, false, true, false, true, false] rfl <| hk18 (sA (sA ob 7 (gA ob 2 i5) (1 : Int32)) 8 (gA ob 2 i5) (gA ob 3 i5)) i1 i3 (i5 + (1 : Int32)) hf
            · refine Runs.icY (pc' := 106) d14_78 (feq hc9).2 (by decide) <| ?_
              refine Runs.aloadN d14_106 rfl <| Runs.getA d14_107 fA_0 w10 (by decide) <| Runs.iload d14_110 rfl <| ?_
              refine chk_el hf fun hi13 hf => ?_
              refine Runs.ialoadA d14_112 fA_0 (by decide) hi13 <| Runs.iconst d14_113 ci_3 <| ?_
              refine ite_el hf (fun hc14 hf => ?_) (fun hc14 hf => ?_)
              · refine Runs.icN d14_114 (teq hc14).2 <| ?_
                refine Runs.aloadN d14_117 rfl <| Runs.getA d14_118 fA_7 w25 (by decide) <| Runs.iload d14_121 rfl <| Runs.iconst d14_123 ci_0 <| ?_
                refine chk_el hf fun hi15 hf => ?_
                exact Runs.bastoreA (y := (0 : Int32)) d14_124 fA_7 (by decide) hi15 rfl <| Runs.iinc (P' := [vr a, vi i1, vn, vi i3, vn, vi (i5 + (1 : Int32)), vi (gA ob 2 i5)]) d14_125 ci_1 rfl (by decide) rfl <| Runs.goto (pc' := 18) d14_128 (by decide) <| Runs.forget [true, true, false, true, false, true, false] rfl <| hk18 (sA ob 7 (gA ob 2 i5) (0 : Int32)) i1 i3 (i5 + (1 : Int32)) hf
              · refine Runs.icY (pc' := 125) d14_114 (feq hc14).2 (by decide) <| ?_
                exact Runs.iinc (P' := [vr a, vi i1, vn, vi i3, vn, vi (i5 + (1 : Int32)), vi (gA ob 2 i5)]) d14_125 ci_1 rfl (by decide) rfl <| Runs.goto (pc' := 18) d14_128 (by decide) <| Runs.forget [true, true, false, true, false, true, false] rfl <| hk18 ob i1 i3 (i5 + (1 : Int32)) hf
          · refine Runs.icN d14_64 (flt hc7).1 <| ?_
            exact Runs.goto (pc' := 125) d14_67 (by decide) <| Runs.iinc (P' := [vr a, vi i1, vn, vi i3, vn, vi (i5 + (1 : Int32)), vi (gA ob 2 i5)]) d14_125 ci_1 rfl (by decide) rfl <| Runs.goto (pc' := 18) d14_128 (by decide) <| Runs.forget [true, true, false, true, false, true, false] rfl <| hk18 ob i1 i3 (i5 + (1 : Int32)) hf
      · refine Runs.icN d14_40 (feq hc4).1 <| ?_
        exact Runs.goto (pc' := 125) d14_43 (by decide) <| Runs.iinc (P' := [vr a, vi i1, vn, vi i3, vn, vi (i5 + (1 : Int32)), vn]) d14_125 ci_1 rfl (by decide) rfl <| Runs.goto (pc' := 18) d14_128 (by decide) <| hk18 ob i1 i3 (i5 + (1 : Int32)) hf
    · refine Runs.icY (pc' := 131) d14_29 (flt hc2).2.1 (by decide) <| ?_
      obtain rfl := Option.some.inj hf
      exact Runs.retV d14_131 rfl ⟨by decide, by decide⟩ ⟨rfl, rfl⟩
  · refine Runs.icY (pc' := 131) d14_21 (flt hc1).2.1 (by decide) <| ?_
    obtain rfl := Option.some.inj hf
    exact Runs.retV d14_131 rfl ⟨by decide, by decide⟩ ⟨rfl, rfl⟩
theorem X_applyToPublisher_l18_p {C : Ctx} {top : Nat} {a : Nat} {H : List (Nat × Nat × Rec)} {res : Rec} {NF : Nat} (n : Nat) (ob : Rec) (i1 : Int32) (i3 : Int32) (i5 : Int32) (hf : X_applyToPublisher_l18 NF n ob i1 i3 i5 = some res) : Runs C B14 0 0 18 [vr a, vi i1, vn, vi i3, vn, vi i5, vn] [] (top, (a, 17, ob) :: H) (Ans none (top, (a, 17, res) :: H)) := by
  induction n generalizing ob i1 i3 i5 with
  | zero => cases (show (none : Option (Rec)) = some res from hf)
  | succ n ih => exact X_applyToPublisher_w18_p (X_applyToPublisher_l18 NF n) (fun ob i1 i3 i5 h => ih _ _ _ _ h) ob i1 i3 i5 hf
def X_applyToPublisher (NF : Nat) (ob : Rec) (i1 : Int32) (i2 : Int32) (i3 : Int32) : Option (Rec) :=
  if (i2 + (1 : Int32)) < (1 : Int32) then
    X_applyToPublisher_l18 NF NF ob i1 i3 (1 : Int32)
  else
    X_applyToPublisher_l18 NF NF ob i1 i3 (i2 + (1 : Int32))
set_option maxRecDepth 65536 in
set_option maxHeartbeats 4000000 in
theorem X_applyToPublisher_p {C : Ctx} {top : Nat} {a : Nat} {H : List (Nat × Nat × Rec)} {res : Rec} {NF : Nat} (ob : Rec) (i1 : Int32) (i2 : Int32) (i3 : Int32) (hf : X_applyToPublisher NF ob i1 i2 i3 = some res) : Runs C B14 0 0 0 [vr a, vi i1, vi i2, vi i3, vn, vn, vn] [] (top, (a, 17, ob) :: H) (Ans none (top, (a, 17, res) :: H)) := by
  delta X_applyToPublisher at hf
  refine Runs.iloadN d14_0 rfl <| Runs.iconst d14_1 ci_1 <| Runs.iadd d14_2 <| Runs.istore (P' := [vr a, vi i1, vi i2, vi i3, vi (i2 + (1 : Int32)), vn, vn]) d14_3 (by decide) rfl <| Runs.iload d14_5 rfl <| Runs.iconst d14_7 ci_1 <| ?_
  refine ite_el hf (fun hc16 hf => ?_) (fun hc16 hf => ?_)
  · refine Runs.icN d14_8 (tlt hc16).2.1 <| ?_
    exact Runs.iconst d14_11 ci_1 <| Runs.istore (P' := [vr a, vi i1, vi i2, vi i3, vi (1 : Int32), vn, vn]) d14_12 (by decide) rfl <| Runs.iload d14_14 rfl <| Runs.istore (P' := [vr a, vi i1, vi i2, vi i3, vi (1 : Int32), vi (1 : Int32), vn]) d14_16 (by decide) rfl <| Runs.forget [true, true, false, true, false, true, false] rfl <| X_applyToPublisher_l18_p NF ob i1 i3 (1 : Int32) hf
  · refine Runs.icY (pc' := 14) d14_8 (flt hc16).2.1 (by decide) <| ?_
    exact Runs.iload d14_14 rfl <| Runs.istore (P' := [vr a, vi i1, vi i2, vi i3, vi (i2 + (1 : Int32)), vi (i2 + (1 : Int32)), vn]) d14_16 (by decide) rfl <| Runs.forget [true, true, false, true, false, true, false] rfl <| X_applyToPublisher_l18_p NF ob i1 i3 (i2 + (1 : Int32)) hf
theorem X_applyToPublisher_pay {C : Ctx} {top : Nat} {a : Nat} {H : List (Nat × Nat × Rec)} {res : Rec} {NF : Nat} {ob : Rec} {i1 : Int32} {i2 : Int32} {i3 : Int32} (hf : X_applyToPublisher NF ob i1 i2 i3 = some res) : Pays C B14 [.ref a, .int i1, .int i2, .int i3] (top, (a, 17, ob) :: H) (Ans none (top, (a, 17, res) :: H)) :=
  Pays.of pnK (Nat.le_of_ble_eq_true rfl) (P := [vr a, vi i1, vi i2, vi i3, vn, vn, vn]) 3 rfl (X_applyToPublisher_p ob i1 i2 i3 hf)
def X_commit (NF : Nat) (ob : Rec) (i1 : Int32) : Option (Int32 × Rec) :=
  (X_checkOpenSlot ob i1).bind fun r1 =>
  if r1 = (0 : Int32) then
    (X_logFull ob).bind fun r4 =>
    if r4 = (0 : Int32) then
      chk (8 : Int32) i1 <|
      bind2 (X_append ob (4 : Int32) i1 (0 : Int32) (0 : Int32)) fun r8 q9 =>
      chk (129 : Int32) r8 <|
      (X_applyToPublisher NF (sA q9 4 r8 (gA ob 6 i1)) i1 (gA ob 6 i1) r8).bind fun q12 =>
      chk (8 : Int32) i1 <|
      some (r8, (sA q12 5 i1 (0 : Int32)))
    else
      some ((-4 : Int32), ob)
  else
    some (r1, ob)
set_option maxRecDepth 65536 in
set_option maxHeartbeats 4000000 in
theorem X_commit_p {C : Ctx} {top : Nat} {a : Nat} {H : List (Nat × Nat × Rec)} {res : Int32 × Rec} {NF : Nat} (ob : Rec) (i1 : Int32) (hf : X_commit NF ob i1 = some res) : Runs C B13 0 0 0 [vr a, vi i1, vn, vn, vn] [] (top, (a, 17, ob) :: H) (Ans (some (.int res.1)) (top, (a, 17, res.2) :: H)) := by
  delta X_commit at hf
  refine Runs.aloadN d13_0 rfl <| Runs.iloadN d13_1 rfl <| ?_
  refine bind_el hf fun r1 hg2 hf => ?_
  refine Runs.callP (N := B9) (W := 0) (as := [.int i1]) (S' := []) d13_2 w95 w96 w97 rfl cw9 ar9 rk13_9_0 (by decide) rfl rfl (X_checkOpenSlot_pay hg2) <| ans1 <| Runs.istoreN (P' := [vr a, vi i1, vi r1, vn, vn]) d13_5 (by decide) rfl <| Runs.iloadN d13_6 rfl <| ?_
  refine ite_el hf (fun hc3 hf => ?_) (fun hc3 hf => ?_)
  · refine Runs.ifY (pc' := 12) d13_7 (teq hc3).1 (by decide) <| ?_
    refine Runs.aloadN d13_12 rfl <| ?_
    refine bind_el hf fun r4 hg5 hf => ?_
    refine Runs.callP (N := B5) (W := 0) (as := []) (S' := []) d13_13 w78 w79 w80 rfl cw5 ar5 rk13_5_0 (by decide) rfl rfl (X_logFull_pay hg5) <| ans1 <| ?_
    refine ite_el hf (fun hc6 hf => ?_) (fun hc6 hf => ?_)
    · refine Runs.ifY (pc' := 22) d13_16 (teq hc6).1 (by decide) <| ?_
      refine Runs.aloadN d13_22 rfl <| Runs.getA d13_23 fA_6 w23 (by decide) <| Runs.iloadN d13_26 rfl <| ?_
      refine chk_el hf fun hi7 hf => ?_
      refine Runs.ialoadA d13_27 fA_6 (by decide) hi7 <| Runs.istoreN (P' := [vr a, vi i1, vi r1, vi (gA ob 6 i1), vn]) d13_28 (by decide) rfl <| Runs.aloadN d13_29 rfl <| Runs.iconst d13_30 ci_4 <| Runs.iloadN d13_31 rfl <| Runs.iconst d13_32 ci_0 <| Runs.iconst d13_33 ci_0 <| ?_
      refine bind2_el hf fun r8 q9 hg10 hf => ?_
      refine Runs.callP (N := B6) (W := 0) (as := [.int (4 : Int32), .int i1, .int (0 : Int32), .int (0 : Int32)]) (S' := []) d13_34 w82 w83 w84 rfl cw6 ar6 rk13_6_0 (by decide) rfl rfl (X_append_pay hg10) <| ans1 <| Runs.istore (P' := [vr a, vi i1, vi r1, vi (gA ob 6 i1), vi r8]) d13_37 (by decide) rfl <| Runs.aloadN d13_39 rfl <| Runs.getA d13_40 fA_4 w18 (by decide) <| Runs.iload d13_43 rfl <| Runs.iloadN d13_45 rfl <| ?_
      refine chk_el hf fun hi11 hf => ?_
      refine Runs.iastoreA d13_46 fA_4 (by decide) hi11 <| Runs.aloadN d13_47 rfl <| Runs.iloadN d13_48 rfl <| Runs.iloadN d13_49 rfl <| Runs.iload d13_50 rfl <| ?_
      refine bind_el hf fun q12 hg13 hf => ?_
      refine Runs.callP (N := B14) (W := 0) (as := [.int i1, .int (gA ob 6 i1), .int r8]) (S' := []) d13_52 w119 w120 w121 rfl cw14 ar14 rk13_14_0 (by decide) rfl rfl (X_applyToPublisher_pay hg13) <| ans0 <| Runs.aloadN d13_55 rfl <| Runs.getA d13_56 fA_5 w21 (by decide) <| Runs.iloadN d13_59 rfl <| Runs.iconst d13_60 ci_0 <| ?_
      refine chk_el hf fun hi14 hf => ?_
      obtain rfl := Option.some.inj hf
      exact Runs.bastoreA (y := (0 : Int32)) d13_61 fA_5 (by decide) hi14 rfl <| Runs.iload d13_62 rfl <| Runs.retI d13_64 rfl ⟨by decide, by decide⟩ ⟨rfl, rfl⟩
    · refine Runs.ifN d13_16 (feq hc6).1 <| ?_
      obtain rfl := Option.some.inj hf
      exact Runs.bipush d13_19 cb_m4 <| Runs.retI d13_21 rfl ⟨by decide, by decide⟩ ⟨rfl, rfl⟩
  · refine Runs.ifN d13_7 (feq hc3).1 <| ?_
    obtain rfl := Option.some.inj hf
    exact Runs.iloadN d13_10 rfl <| Runs.retI d13_11 rfl ⟨by decide, by decide⟩ ⟨rfl, rfl⟩
theorem X_commit_pay {C : Ctx} {top : Nat} {a : Nat} {H : List (Nat × Nat × Rec)} {res : Int32 × Rec} {NF : Nat} {ob : Rec} {i1 : Int32} (hf : X_commit NF ob i1 = some res) : Pays C B13 [.ref a, .int i1] (top, (a, 17, ob) :: H) (Ans (some (.int res.1)) (top, (a, 17, res.2) :: H)) :=
  Pays.of pnK (Nat.le_of_ble_eq_true rfl) (P := [vr a, vi i1, vn, vn, vn]) 3 rfl (X_commit_p ob i1 hf)
def X_countOpen_w4 (NF : Nat) (ob : Rec) (k4 : Int32 → Int32 → Option (Int32)) (i1 : Int32) (i2 : Int32) : Option (Int32) :=
  if i2 < (gI ob 1) then
    if i2 < (8 : Int32) then
      chk (8 : Int32) i2 <|
      if (gA ob 5 i2) = (0 : Int32) then
        k4 i1 (i2 + (1 : Int32))
      else
        k4 (i1 + (1 : Int32)) (i2 + (1 : Int32))
    else
      some i1
  else
    some i1
def X_countOpen_l4 (NF : Nat) (ob : Rec) : Nat → Int32 → Int32 → Option (Int32)
  | 0, _, _ => none
  | n + 1, i1, i2 => X_countOpen_w4 NF ob (X_countOpen_l4 NF ob n) i1 i2
set_option maxRecDepth 65536 in
set_option maxHeartbeats 4000000 in
theorem X_countOpen_w4_p {C : Ctx} {top : Nat} {a : Nat} {H : List (Nat × Nat × Rec)} {ob : Rec} {res : Int32} {NF : Nat} (k4 : Int32 → Int32 → Option (Int32)) (hk4 : ∀ (i1 : Int32) (i2 : Int32), k4 i1 i2 = some res → Runs C B17 0 0 4 [vr a, vi i1, vi i2] [] (top, (a, 17, ob) :: H) (Ans (some (.int res)) (top, (a, 17, ob) :: H))) (i1 : Int32) (i2 : Int32) (hf : X_countOpen_w4 NF ob k4 i1 i2 = some res) : Runs C B17 0 0 4 [vr a, vi i1, vi i2] [] (top, (a, 17, ob) :: H) (Ans (some (.int res)) (top, (a, 17, ob) :: H)) := by
  delta X_countOpen_w4 at hf
  refine Runs.iloadN d17_4 rfl <| Runs.aloadN d17_5 rfl <| Runs.getI d17_6 w51 fS_1 <| ?_
  refine ite_el hf (fun hc1 hf => ?_) (fun hc1 hf => ?_)
  · refine Runs.icN d17_9 (tlt hc1).2.1 <| ?_
    refine Runs.iloadN d17_12 rfl <| Runs.bipush d17_13 cb_8 <| ?_
    refine ite_el hf (fun hc2 hf => ?_) (fun hc2 hf => ?_)
    · refine Runs.icN d17_15 (tlt hc2).2.1 <| ?_
      refine Runs.aloadN d17_18 rfl <| Runs.getA d17_19 fA_5 w21 (by decide) <| Runs.iloadN d17_22 rfl <| ?_
      refine chk_el hf fun hi3 hf => ?_
      refine Runs.baloadA d17_23 fA_5 (by decide) hi3 <| ?_
      refine ite_el hf (fun hc4 hf => ?_) (fun hc4 hf => ?_)
      · refine Runs.ifY (pc' := 30) d17_24 (teq hc4).1 (by decide) <| ?_
        exact Runs.iinc (P' := [vr a, vi i1, vi (i2 + (1 : Int32))]) d17_30 ci_1 rfl (by decide) rfl <| Runs.goto (pc' := 4) d17_33 (by decide) <| hk4 i1 (i2 + (1 : Int32)) hf
      · refine Runs.ifN d17_24 (feq hc4).1 <| ?_
        exact Runs.iinc (P' := [vr a, vi (i1 + (1 : Int32)), vi i2]) d17_27 ci_1 rfl (by decide) rfl <| Runs.iinc (P' := [vr a, vi (i1 + (1 : Int32)), vi (i2 + (1 : Int32))]) d17_30 ci_1 rfl (by decide) rfl <| Runs.goto (pc' := 4) d17_33 (by decide) <| hk4 (i1 + (1 : Int32)) (i2 + (1 : Int32)) hf
    · refine Runs.icY (pc' := 36) d17_15 (flt hc2).2.1 (by decide) <| ?_
      obtain rfl := Option.some.inj hf
      exact Runs.iloadN d17_36 rfl <| Runs.retI d17_37 rfl ⟨by decide, by decide⟩ ⟨rfl, rfl⟩
  · refine Runs.icY (pc' := 36) d17_9 (flt hc1).2.1 (by decide) <| ?_
    obtain rfl := Option.some.inj hf
    exact Runs.iloadN d17_36 rfl <| Runs.retI d17_37 rfl ⟨by decide, by decide⟩ ⟨rfl, rfl⟩
theorem X_countOpen_l4_p {C : Ctx} {top : Nat} {a : Nat} {H : List (Nat × Nat × Rec)} {ob : Rec} {res : Int32} {NF : Nat} (n : Nat) (i1 : Int32) (i2 : Int32) (hf : X_countOpen_l4 NF ob n i1 i2 = some res) : Runs C B17 0 0 4 [vr a, vi i1, vi i2] [] (top, (a, 17, ob) :: H) (Ans (some (.int res)) (top, (a, 17, ob) :: H)) := by
  induction n generalizing i1 i2 with
  | zero => cases (show (none : Option (Int32)) = some res from hf)
  | succ n ih => exact X_countOpen_w4_p (X_countOpen_l4 NF ob n) (fun i1 i2 h => ih _ _ h) i1 i2 hf
def X_countOpen (NF : Nat) (ob : Rec) : Option (Int32) :=
  X_countOpen_l4 NF ob NF (0 : Int32) (0 : Int32)
set_option maxRecDepth 65536 in
set_option maxHeartbeats 4000000 in
theorem X_countOpen_p {C : Ctx} {top : Nat} {a : Nat} {H : List (Nat × Nat × Rec)} {ob : Rec} {res : Int32} {NF : Nat} (hf : X_countOpen NF ob = some res) : Runs C B17 0 0 0 [vr a, vn, vn] [] (top, (a, 17, ob) :: H) (Ans (some (.int res)) (top, (a, 17, ob) :: H)) := by
  delta X_countOpen at hf
  exact Runs.iconst d17_0 ci_0 <| Runs.istoreN (P' := [vr a, vi (0 : Int32), vn]) d17_1 (by decide) rfl <| Runs.iconst d17_2 ci_0 <| Runs.istoreN (P' := [vr a, vi (0 : Int32), vi (0 : Int32)]) d17_3 (by decide) rfl <| X_countOpen_l4_p NF (0 : Int32) (0 : Int32) hf
theorem X_countOpen_pay {C : Ctx} {top : Nat} {a : Nat} {H : List (Nat × Nat × Rec)} {ob : Rec} {res : Int32} {NF : Nat} (hf : X_countOpen NF ob = some res) : Pays C B17 [.ref a] (top, (a, 17, ob) :: H) (Ans (some (.int res)) (top, (a, 17, ob) :: H)) :=
  Pays.of pnK (Nat.le_of_ble_eq_true rfl) (P := [vr a, vn, vn]) 2 rfl (X_countOpen_p hf)
def X_countPubRows_w4 (NF : Nat) (ob : Rec) (k4 : Int32 → Int32 → Option (Int32)) (i1 : Int32) (i2 : Int32) : Option (Int32) :=
  if i2 < (gI ob 0) then
    if i2 < (32 : Int32) then
      chk (32 : Int32) i2 <|
      if (gA ob 7 i2) = (0 : Int32) then
        k4 i1 (i2 + (1 : Int32))
      else
        k4 (i1 + (1 : Int32)) (i2 + (1 : Int32))
    else
      some i1
  else
    some i1
def X_countPubRows_l4 (NF : Nat) (ob : Rec) : Nat → Int32 → Int32 → Option (Int32)
  | 0, _, _ => none
  | n + 1, i1, i2 => X_countPubRows_w4 NF ob (X_countPubRows_l4 NF ob n) i1 i2
set_option maxRecDepth 65536 in
set_option maxHeartbeats 4000000 in
theorem X_countPubRows_w4_p {C : Ctx} {top : Nat} {a : Nat} {H : List (Nat × Nat × Rec)} {ob : Rec} {res : Int32} {NF : Nat} (k4 : Int32 → Int32 → Option (Int32)) (hk4 : ∀ (i1 : Int32) (i2 : Int32), k4 i1 i2 = some res → Runs C B16 0 0 4 [vr a, vi i1, vi i2] [] (top, (a, 17, ob) :: H) (Ans (some (.int res)) (top, (a, 17, ob) :: H))) (i1 : Int32) (i2 : Int32) (hf : X_countPubRows_w4 NF ob k4 i1 i2 = some res) : Runs C B16 0 0 4 [vr a, vi i1, vi i2] [] (top, (a, 17, ob) :: H) (Ans (some (.int res)) (top, (a, 17, ob) :: H)) := by
  delta X_countPubRows_w4 at hf
  refine Runs.iloadN d16_4 rfl <| Runs.aloadN d16_5 rfl <| Runs.getI d16_6 w49 fS_0 <| ?_
  refine ite_el hf (fun hc1 hf => ?_) (fun hc1 hf => ?_)
  · refine Runs.icN d16_9 (tlt hc1).2.1 <| ?_
    refine Runs.iloadN d16_12 rfl <| Runs.bipush d16_13 cb_32 <| ?_
    refine ite_el hf (fun hc2 hf => ?_) (fun hc2 hf => ?_)
    · refine Runs.icN d16_15 (tlt hc2).2.1 <| ?_
      refine Runs.aloadN d16_18 rfl <| Runs.getA d16_19 fA_7 w25 (by decide) <| Runs.iloadN d16_22 rfl <| ?_
      refine chk_el hf fun hi3 hf => ?_
      refine Runs.baloadA d16_23 fA_7 (by decide) hi3 <| ?_
      refine ite_el hf (fun hc4 hf => ?_) (fun hc4 hf => ?_)
      · refine Runs.ifY (pc' := 30) d16_24 (teq hc4).1 (by decide) <| ?_
        exact Runs.iinc (P' := [vr a, vi i1, vi (i2 + (1 : Int32))]) d16_30 ci_1 rfl (by decide) rfl <| Runs.goto (pc' := 4) d16_33 (by decide) <| hk4 i1 (i2 + (1 : Int32)) hf
      · refine Runs.ifN d16_24 (feq hc4).1 <| ?_
        exact Runs.iinc (P' := [vr a, vi (i1 + (1 : Int32)), vi i2]) d16_27 ci_1 rfl (by decide) rfl <| Runs.iinc (P' := [vr a, vi (i1 + (1 : Int32)), vi (i2 + (1 : Int32))]) d16_30 ci_1 rfl (by decide) rfl <| Runs.goto (pc' := 4) d16_33 (by decide) <| hk4 (i1 + (1 : Int32)) (i2 + (1 : Int32)) hf
    · refine Runs.icY (pc' := 36) d16_15 (flt hc2).2.1 (by decide) <| ?_
      obtain rfl := Option.some.inj hf
      exact Runs.iloadN d16_36 rfl <| Runs.retI d16_37 rfl ⟨by decide, by decide⟩ ⟨rfl, rfl⟩
  · refine Runs.icY (pc' := 36) d16_9 (flt hc1).2.1 (by decide) <| ?_
    obtain rfl := Option.some.inj hf
    exact Runs.iloadN d16_36 rfl <| Runs.retI d16_37 rfl ⟨by decide, by decide⟩ ⟨rfl, rfl⟩
theorem X_countPubRows_l4_p {C : Ctx} {top : Nat} {a : Nat} {H : List (Nat × Nat × Rec)} {ob : Rec} {res : Int32} {NF : Nat} (n : Nat) (i1 : Int32) (i2 : Int32) (hf : X_countPubRows_l4 NF ob n i1 i2 = some res) : Runs C B16 0 0 4 [vr a, vi i1, vi i2] [] (top, (a, 17, ob) :: H) (Ans (some (.int res)) (top, (a, 17, ob) :: H)) := by
  induction n generalizing i1 i2 with
  | zero => cases (show (none : Option (Int32)) = some res from hf)
  | succ n ih => exact X_countPubRows_w4_p (X_countPubRows_l4 NF ob n) (fun i1 i2 h => ih _ _ h) i1 i2 hf
def X_countPubRows (NF : Nat) (ob : Rec) : Option (Int32) :=
  X_countPubRows_l4 NF ob NF (0 : Int32) (0 : Int32)
set_option maxRecDepth 65536 in
set_option maxHeartbeats 4000000 in
theorem X_countPubRows_p {C : Ctx} {top : Nat} {a : Nat} {H : List (Nat × Nat × Rec)} {ob : Rec} {res : Int32} {NF : Nat} (hf : X_countPubRows NF ob = some res) : Runs C B16 0 0 0 [vr a, vn, vn] [] (top, (a, 17, ob) :: H) (Ans (some (.int res)) (top, (a, 17, ob) :: H)) := by
  delta X_countPubRows at hf
  exact Runs.iconst d16_0 ci_0 <| Runs.istoreN (P' := [vr a, vi (0 : Int32), vn]) d16_1 (by decide) rfl <| Runs.iconst d16_2 ci_0 <| Runs.istoreN (P' := [vr a, vi (0 : Int32), vi (0 : Int32)]) d16_3 (by decide) rfl <| X_countPubRows_l4_p NF (0 : Int32) (0 : Int32) hf
theorem X_countPubRows_pay {C : Ctx} {top : Nat} {a : Nat} {H : List (Nat × Nat × Rec)} {ob : Rec} {res : Int32} {NF : Nat} (hf : X_countPubRows NF ob = some res) : Pays C B16 [.ref a] (top, (a, 17, ob) :: H) (Ans (some (.int res)) (top, (a, 17, ob) :: H)) :=
  Pays.of pnK (Nat.le_of_ble_eq_true rfl) (P := [vr a, vn, vn]) 2 rfl (X_countPubRows_p hf)
def X_info (NF : Nat) (ob : Rec) (i1 : Int32) : Option (Int32) :=
  if i1 = (0 : Int32) then
    some (gI ob 4)
  else
  if i1 = (1 : Int32) then
    (X_countOpen NF ob).bind fun r3 =>
    some r3
  else
  if i1 = (2 : Int32) then
    some (gI ob 5)
  else
  if i1 = (3 : Int32) then
    some (gI ob 9)
  else
  if i1 = (4 : Int32) then
    some (gI ob 6)
  else
  if i1 = (5 : Int32) then
    some (gI ob 7)
  else
  if i1 = (6 : Int32) then
    (X_countPubRows NF ob).bind fun r10 =>
    some r10
  else
  if i1 = (7 : Int32) then
    none
  else
    some (-1 : Int32)
set_option maxRecDepth 65536 in
set_option maxHeartbeats 4000000 in
theorem X_info_p {C : Ctx} {top : Nat} {a : Nat} {H : List (Nat × Nat × Rec)} {ob : Rec} {res : Int32} {NF : Nat} (i1 : Int32) (hf : X_info NF ob i1 = some res) : Runs C B15 0 0 0 [vr a, vi i1] [] (top, (a, 17, ob) :: H) (Ans (some (.int res)) (top, (a, 17, ob) :: H)) := by
  delta X_info at hf
  refine Runs.iloadN d15_0 rfl <| ?_
  refine ite_el hf (fun hc1 hf => ?_) (fun hc1 hf => ?_)
  · refine Runs.tswI (pc' := 48) d15_1 (by rw [hc1]; decide) (by rw [hc1]; rfl) (by decide) <| ?_
    obtain rfl := Option.some.inj hf
    exact Runs.aloadN d15_48 rfl <| Runs.getI d15_49 w57 fS_4 <| Runs.retI d15_52 rfl ⟨by decide, by decide⟩ ⟨rfl, rfl⟩
  refine ite_el hf (fun hc2 hf => ?_) (fun hc2 hf => ?_)
  · refine Runs.tswI (pc' := 53) d15_1 (by rw [hc2]; decide) (by rw [hc2]; rfl) (by decide) <| ?_
    refine Runs.aloadN d15_53 rfl <| ?_
    refine bind_el hf fun r3 hg4 hf => ?_
    obtain rfl := Option.some.inj hf
    exact Runs.callP (N := B17) (W := 0) (as := []) (S' := []) d15_54 w132 w133 w134 rfl cw17 ar17 rk15_17_0 (by decide) rfl rfl (X_countOpen_pay hg4) <| ans1 <| Runs.retI d15_57 rfl ⟨by decide, by decide⟩ ⟨rfl, rfl⟩
  refine ite_el hf (fun hc5 hf => ?_) (fun hc5 hf => ?_)
  · refine Runs.tswI (pc' := 58) d15_1 (by rw [hc5]; decide) (by rw [hc5]; rfl) (by decide) <| ?_
    obtain rfl := Option.some.inj hf
    exact Runs.aloadN d15_58 rfl <| Runs.getI d15_59 w59 fS_5 <| Runs.retI d15_62 rfl ⟨by decide, by decide⟩ ⟨rfl, rfl⟩
  refine ite_el hf (fun hc6 hf => ?_) (fun hc6 hf => ?_)
  · refine Runs.tswI (pc' := 63) d15_1 (by rw [hc6]; decide) (by rw [hc6]; rfl) (by decide) <| ?_
    obtain rfl := Option.some.inj hf
    exact Runs.aloadN d15_63 rfl <| Runs.getI d15_64 w67 fS_9 <| Runs.retI d15_67 rfl ⟨by decide, by decide⟩ ⟨rfl, rfl⟩
  refine ite_el hf (fun hc7 hf => ?_) (fun hc7 hf => ?_)
  · refine Runs.tswI (pc' := 68) d15_1 (by rw [hc7]; decide) (by rw [hc7]; rfl) (by decide) <| ?_
    obtain rfl := Option.some.inj hf
    exact Runs.aloadN d15_68 rfl <| Runs.getI d15_69 w61 fS_6 <| Runs.retI d15_72 rfl ⟨by decide, by decide⟩ ⟨rfl, rfl⟩
  refine ite_el hf (fun hc8 hf => ?_) (fun hc8 hf => ?_)
  · refine Runs.tswI (pc' := 73) d15_1 (by rw [hc8]; decide) (by rw [hc8]; rfl) (by decide) <| ?_
    obtain rfl := Option.some.inj hf
    exact Runs.aloadN d15_73 rfl <| Runs.getI d15_74 w63 fS_7 <| Runs.retI d15_77 rfl ⟨by decide, by decide⟩ ⟨rfl, rfl⟩
  refine ite_el hf (fun hc9 hf => ?_) (fun hc9 hf => ?_)
  · refine Runs.tswI (pc' := 78) d15_1 (by rw [hc9]; decide) (by rw [hc9]; rfl) (by decide) <| ?_
    refine Runs.aloadN d15_78 rfl <| ?_
    refine bind_el hf fun r10 hg11 hf => ?_
    obtain rfl := Option.some.inj hf
    exact Runs.callP (N := B16) (W := 0) (as := []) (S' := []) d15_79 w128 w129 w130 rfl cw16 ar16 rk15_16_0 (by decide) rfl rfl (X_countPubRows_pay hg11) <| ans1 <| Runs.retI d15_82 rfl ⟨by decide, by decide⟩ ⟨rfl, rfl⟩
  refine ite_el hf (fun hc12 hf => ?_) (fun hc12 hf => ?_)
  · refine Runs.tswI (pc' := 83) d15_1 (by rw [hc12]; decide) (by rw [hc12]; rfl) (by decide) <| ?_
    cases hf
  refine Runs.tswO (pc' := 88) d15_1 (by have u0 : Int32.toInt i1 ≠ 0 := fun u => hc1 (Int32.toInt_inj.mp (u.trans (by decide))); have u1 : Int32.toInt i1 ≠ 1 := fun u => hc2 (Int32.toInt_inj.mp (u.trans (by decide))); have u2 : Int32.toInt i1 ≠ 2 := fun u => hc5 (Int32.toInt_inj.mp (u.trans (by decide))); have u3 : Int32.toInt i1 ≠ 3 := fun u => hc6 (Int32.toInt_inj.mp (u.trans (by decide))); have u4 : Int32.toInt i1 ≠ 4 := fun u => hc7 (Int32.toInt_inj.mp (u.trans (by decide))); have u5 : Int32.toInt i1 ≠ 5 := fun u => hc8 (Int32.toInt_inj.mp (u.trans (by decide))); have u6 : Int32.toInt i1 ≠ 6 := fun u => hc9 (Int32.toInt_inj.mp (u.trans (by decide))); have u7 : Int32.toInt i1 ≠ 7 := fun u => hc12 (Int32.toInt_inj.mp (u.trans (by decide))); omega) (by decide) <| ?_
  obtain rfl := Option.some.inj hf
  exact Runs.iconst d15_88 ci_m1 <| Runs.retI d15_89 rfl ⟨by decide, by decide⟩ ⟨rfl, rfl⟩
theorem X_info_pay {C : Ctx} {top : Nat} {a : Nat} {H : List (Nat × Nat × Rec)} {ob : Rec} {res : Int32} {NF : Nat} {i1 : Int32} (hf : X_info NF ob i1 = some res) : Pays C B15 [.ref a, .int i1] (top, (a, 17, ob) :: H) (Ans (some (.int res)) (top, (a, 17, ob) :: H)) :=
  Pays.of pnK (Nat.le_of_ble_eq_true rfl) (P := [vr a, vi i1]) 0 rfl (X_info_p i1 hf)
def L_law_b256 (NF : Nat) (ob : Rec) (i8 : Int32) (i9 : Int32) (i10 : Int32) (l11 : Int64) (i13 : Int32) (l14 : Int64) (l16 : Int64) (i18 : Int32) (i19 : Int32) (i20 : Int32) (i21 : Int32) (i22 : Int32) (l24 : Int64) (t0 : Int32) : Option (Int32) :=
  if i8 = (1 : Int32) then
    if i9 = i20 then
      if i10 = i21 then
        if l11 = (4294967296 : Int64) then
          if i13 = i22 then
            if l14 = l24 then
              if l16 = (4294967296 : Int64) then
                if i18 = t0 then
                  if i19 = (0 : Int32) then
                    some (1 : Int32)
                  else
                    some (0 : Int32)
                else
                  some (0 : Int32)
              else
                some (0 : Int32)
            else
              some (0 : Int32)
          else
            some (0 : Int32)
        else
          some (0 : Int32)
      else
        some (0 : Int32)
    else
      some (0 : Int32)
  else
    some (0 : Int32)
set_option maxRecDepth 65536 in
set_option maxHeartbeats 4000000 in
theorem L_law_b256_p {C : Ctx} {res : Int32} {NF : Nat} (ob : Rec) (i8 : Int32) (i9 : Int32) (i10 : Int32) (l11 : Int64) (i13 : Int32) (l14 : Int64) (l16 : Int64) (i18 : Int32) (i19 : Int32) (i20 : Int32) (i21 : Int32) (i22 : Int32) (l24 : Int64) (t0 : Int32) (hf : L_law_b256 NF ob i8 i9 i10 l11 i13 l14 l16 i18 i19 i20 i21 i22 l24 t0 = some res) : Runs C B0 18 1392 256 [vn, vn, vn, vn, vn, vn, vn, vn, vi i8, vi i9, vi i10, vl l11, v2, vi i13, vl l14, v2, vl l16, v2, vi i18, vi i19, vi i20, vi i21, vi i22, vn, vl l24, v2, vn] [.int t0] (C.2.2.1 + 1 + 17, (C.2.2.1, 17, ob) :: []) (fun v _ => v = (some (.int res))) := by
  delta L_law_b256 at hf
  refine Runs.istore (P' := [vn, vn, vn, vn, vn, vn, vn, vn, vi i8, vi i9, vi i10, vl l11, v2, vi i13, vl l14, v2, vl l16, v2, vi i18, vi i19, vi i20, vi i21, vi i22, vn, vl l24, v2, vi t0]) d0_256 (by decide) rfl <| Runs.iload d0_258 rfl <| Runs.iconst d0_260 ci_1 <| ?_
  refine ite_el hf (fun hc37 hf => ?_) (fun hc37 hf => ?_)
  · refine Runs.icN d0_261 (teq hc37).2 <| ?_
    refine Runs.iload d0_264 rfl <| Runs.iload d0_266 rfl <| ?_
    refine ite_el hf (fun hc38 hf => ?_) (fun hc38 hf => ?_)
    · refine Runs.icN d0_268 (teq hc38).2 <| ?_
      refine Runs.iload d0_271 rfl <| Runs.iload d0_273 rfl <| ?_
      refine ite_el hf (fun hc39 hf => ?_) (fun hc39 hf => ?_)
      · refine Runs.icN d0_275 (teq hc39).2 <| ?_
        refine Runs.lload d0_278 rfl <| Runs.ldc2 d0_280 w136 <| Runs.lcmp d0_283 <| ?_
        refine ite_el hf (fun hc40 hf => ?_) (fun hc40 hf => ?_)
        · refine Runs.ifN d0_284 (teq ((lw_eq _ _).mpr hc40)).2 <| ?_
          refine Runs.iload d0_287 rfl <| Runs.iload d0_289 rfl <| ?_
          refine ite_el hf (fun hc41 hf => ?_) (fun hc41 hf => ?_)
          · refine Runs.icN d0_291 (teq hc41).2 <| ?_
            refine Runs.lload d0_294 rfl <| Runs.lload d0_296 rfl <| Runs.lcmp d0_298 <| ?_
            refine ite_el hf (fun hc42 hf => ?_) (fun hc42 hf => ?_)
            · refine Runs.ifN d0_299 (teq ((lw_eq _ _).mpr hc42)).2 <| ?_
              refine Runs.lload d0_302 rfl <| Runs.ldc2 d0_304 w136 <| Runs.lcmp d0_307 <| ?_
              refine ite_el hf (fun hc43 hf => ?_) (fun hc43 hf => ?_)
              · refine Runs.ifN d0_308 (teq ((lw_eq _ _).mpr hc43)).2 <| ?_
                refine Runs.iload d0_311 rfl <| Runs.iload d0_313 rfl <| ?_
                refine ite_el hf (fun hc44 hf => ?_) (fun hc44 hf => ?_)
                · refine Runs.icN d0_315 (teq hc44).2 <| ?_
                  refine Runs.iload d0_318 rfl <| ?_
                  refine ite_el hf (fun hc45 hf => ?_) (fun hc45 hf => ?_)
                  · refine Runs.ifN d0_320 (teq hc45).2 <| ?_
                    obtain rfl := Option.some.inj hf
                    exact Runs.iconst d0_323 ci_1 <| Runs.goto (pc' := 328) d0_324 (by decide) <| Runs.retZ (y := (1 : Int32)) d0_328 rfl ⟨by decide, by decide⟩ rfl rfl
                  · refine Runs.ifY (pc' := 327) d0_320 (feq hc45).2 (by decide) <| ?_
                    obtain rfl := Option.some.inj hf
                    exact Runs.iconst d0_327 ci_0 <| Runs.retZ (y := (0 : Int32)) d0_328 rfl ⟨by decide, by decide⟩ rfl rfl
                · refine Runs.icY (pc' := 327) d0_315 (feq hc44).2 (by decide) <| ?_
                  obtain rfl := Option.some.inj hf
                  exact Runs.iconst d0_327 ci_0 <| Runs.retZ (y := (0 : Int32)) d0_328 rfl ⟨by decide, by decide⟩ rfl rfl
              · refine Runs.ifY (pc' := 327) d0_308 (feq (fun u => hc43 ((lw_eq _ _).mp u))).2 (by decide) <| ?_
                obtain rfl := Option.some.inj hf
                exact Runs.iconst d0_327 ci_0 <| Runs.retZ (y := (0 : Int32)) d0_328 rfl ⟨by decide, by decide⟩ rfl rfl
            · refine Runs.ifY (pc' := 327) d0_299 (feq (fun u => hc42 ((lw_eq _ _).mp u))).2 (by decide) <| ?_
              obtain rfl := Option.some.inj hf
              exact Runs.iconst d0_327 ci_0 <| Runs.retZ (y := (0 : Int32)) d0_328 rfl ⟨by decide, by decide⟩ rfl rfl
          · refine Runs.icY (pc' := 327) d0_291 (feq hc41).2 (by decide) <| ?_
            obtain rfl := Option.some.inj hf
            exact Runs.iconst d0_327 ci_0 <| Runs.retZ (y := (0 : Int32)) d0_328 rfl ⟨by decide, by decide⟩ rfl rfl
        · refine Runs.ifY (pc' := 327) d0_284 (feq (fun u => hc40 ((lw_eq _ _).mp u))).2 (by decide) <| ?_
          obtain rfl := Option.some.inj hf
          exact Runs.iconst d0_327 ci_0 <| Runs.retZ (y := (0 : Int32)) d0_328 rfl ⟨by decide, by decide⟩ rfl rfl
      · refine Runs.icY (pc' := 327) d0_275 (feq hc39).2 (by decide) <| ?_
        obtain rfl := Option.some.inj hf
        exact Runs.iconst d0_327 ci_0 <| Runs.retZ (y := (0 : Int32)) d0_328 rfl ⟨by decide, by decide⟩ rfl rfl
    · refine Runs.icY (pc' := 327) d0_268 (feq hc38).2 (by decide) <| ?_
      obtain rfl := Option.some.inj hf
      exact Runs.iconst d0_327 ci_0 <| Runs.retZ (y := (0 : Int32)) d0_328 rfl ⟨by decide, by decide⟩ rfl rfl
  · refine Runs.icY (pc' := 327) d0_261 (feq hc37).2 (by decide) <| ?_
    obtain rfl := Option.some.inj hf
    exact Runs.iconst d0_327 ci_0 <| Runs.retZ (y := (0 : Int32)) d0_328 rfl ⟨by decide, by decide⟩ rfl rfl
def L_law_b244 (NF : Nat) (ob : Rec) (i8 : Int32) (i9 : Int32) (i10 : Int32) (l11 : Int64) (i13 : Int32) (l14 : Int64) (l16 : Int64) (i18 : Int32) (i19 : Int32) (i20 : Int32) (i21 : Int32) (i22 : Int32) (i23 : Int32) (t0 : Int64) : Option (Int32) :=
  if i23 = (0 : Int32) then
    L_law_b256 NF ob i8 i9 i10 l11 i13 l14 l16 i18 i19 i20 i21 i22 t0 (0 : Int32)
  else
    L_law_b256 NF ob i8 i9 i10 l11 i13 l14 l16 i18 i19 i20 i21 i22 t0 (1 : Int32)
set_option maxRecDepth 65536 in
set_option maxHeartbeats 4000000 in
theorem L_law_b244_p {C : Ctx} {res : Int32} {NF : Nat} (ob : Rec) (i8 : Int32) (i9 : Int32) (i10 : Int32) (l11 : Int64) (i13 : Int32) (l14 : Int64) (l16 : Int64) (i18 : Int32) (i19 : Int32) (i20 : Int32) (i21 : Int32) (i22 : Int32) (i23 : Int32) (t0 : Int64) (hf : L_law_b244 NF ob i8 i9 i10 l11 i13 l14 l16 i18 i19 i20 i21 i22 i23 t0 = some res) : Runs C B0 18 1392 244 [vn, vn, vn, vn, vn, vn, vn, vn, vi i8, vi i9, vi i10, vl l11, v2, vi i13, vl l14, v2, vl l16, v2, vi i18, vi i19, vi i20, vi i21, vi i22, vi i23, vn, vn, vn] [.long t0] (C.2.2.1 + 1 + 17, (C.2.2.1, 17, ob) :: []) (fun v _ => v = (some (.int res))) := by
  delta L_law_b244 at hf
  refine Runs.lstore (P' := [vn, vn, vn, vn, vn, vn, vn, vn, vi i8, vi i9, vi i10, vl l11, v2, vi i13, vl l14, v2, vl l16, v2, vi i18, vi i19, vi i20, vi i21, vi i22, vi i23, vl t0, v2, vn]) d0_244 (by decide) rfl <| Runs.iload d0_246 rfl <| ?_
  refine ite_el hf (fun hc36 hf => ?_) (fun hc36 hf => ?_)
  · refine Runs.ifY (pc' := 255) d0_248 (teq hc36).1 (by decide) <| ?_
    exact Runs.iconst d0_255 ci_0 <| Runs.forget [false, false, false, false, false, false, false, false, true, true, true, true, true, true, true, true, true, true, true, true, true, true, true, false, true, true, false] rfl <| L_law_b256_p ob i8 i9 i10 l11 i13 l14 l16 i18 i19 i20 i21 i22 t0 (0 : Int32) hf
  · refine Runs.ifN d0_248 (feq hc36).1 <| ?_
    exact Runs.iconst d0_251 ci_1 <| Runs.goto (pc' := 256) d0_252 (by decide) <| Runs.forget [false, false, false, false, false, false, false, false, true, true, true, true, true, true, true, true, true, true, true, true, true, true, true, false, true, true, false] rfl <| L_law_b256_p ob i8 i9 i10 l11 i13 l14 l16 i18 i19 i20 i21 i22 t0 (1 : Int32) hf
def L_law_b229 (NF : Nat) (ob : Rec) (i2 : Int32) (i8 : Int32) (i9 : Int32) (i10 : Int32) (l11 : Int64) (i13 : Int32) (l14 : Int64) (l16 : Int64) (i18 : Int32) (i19 : Int32) (i20 : Int32) (i21 : Int32) (i22 : Int32) (t0 : Int32) : Option (Int32) :=
  if t0 = (0 : Int32) then
    L_law_b244 NF ob i8 i9 i10 l11 i13 l14 l16 i18 i19 i20 i21 i22 t0 (4294967296 : Int64)
  else
    L_law_b244 NF ob i8 i9 i10 l11 i13 l14 l16 i18 i19 i20 i21 i22 t0 i2.toInt64
set_option maxRecDepth 65536 in
set_option maxHeartbeats 4000000 in
theorem L_law_b229_p {C : Ctx} {res : Int32} {NF : Nat} (ob : Rec) (i2 : Int32) (i8 : Int32) (i9 : Int32) (i10 : Int32) (l11 : Int64) (i13 : Int32) (l14 : Int64) (l16 : Int64) (i18 : Int32) (i19 : Int32) (i20 : Int32) (i21 : Int32) (i22 : Int32) (t0 : Int32) (hf : L_law_b229 NF ob i2 i8 i9 i10 l11 i13 l14 l16 i18 i19 i20 i21 i22 t0 = some res) : Runs C B0 18 1392 229 [vn, vn, vi i2, vn, vn, vn, vn, vn, vi i8, vi i9, vi i10, vl l11, v2, vi i13, vl l14, v2, vl l16, v2, vi i18, vi i19, vi i20, vi i21, vi i22, vn, vn, vn, vn] [.int t0] (C.2.2.1 + 1 + 17, (C.2.2.1, 17, ob) :: []) (fun v _ => v = (some (.int res))) := by
  delta L_law_b229 at hf
  refine Runs.istore (P' := [vn, vn, vi i2, vn, vn, vn, vn, vn, vi i8, vi i9, vi i10, vl l11, v2, vi i13, vl l14, v2, vl l16, v2, vi i18, vi i19, vi i20, vi i21, vi i22, vi t0, vn, vn, vn]) d0_229 (by decide) rfl <| Runs.iload d0_231 rfl <| ?_
  refine ite_el hf (fun hc35 hf => ?_) (fun hc35 hf => ?_)
  · refine Runs.ifY (pc' := 241) d0_233 (teq hc35).1 (by decide) <| ?_
    exact Runs.ldc2 d0_241 w136 <| Runs.forget [false, false, false, false, false, false, false, false, true, true, true, true, true, true, true, true, true, true, true, true, true, true, true, true, false, false, false] rfl <| L_law_b244_p ob i8 i9 i10 l11 i13 l14 l16 i18 i19 i20 i21 i22 t0 (4294967296 : Int64) hf
  · refine Runs.ifN d0_233 (feq hc35).1 <| ?_
    exact Runs.iloadN d0_236 rfl <| Runs.i2l d0_237 <| Runs.goto (pc' := 244) d0_238 (by decide) <| Runs.forget [false, false, false, false, false, false, false, false, true, true, true, true, true, true, true, true, true, true, true, true, true, true, true, true, false, false, false] rfl <| L_law_b244_p ob i8 i9 i10 l11 i13 l14 l16 i18 i19 i20 i21 i22 t0 i2.toInt64 hf
def L_law_b206 (NF : Nat) (ob : Rec) (i1 : Int32) (i2 : Int32) (i3 : Int32) (i6 : Int32) (i7 : Int32) (i8 : Int32) (i9 : Int32) (i10 : Int32) (l11 : Int64) (i13 : Int32) (l14 : Int64) (l16 : Int64) (i18 : Int32) (i19 : Int32) (i20 : Int32) (i21 : Int32) (t0 : Int32) (t1 : Int32) : Option (Int32) :=
  if i6 = (0 : Int32) then
    L_law_b229 NF ob i2 i8 i9 i10 l11 i13 l14 l16 i18 i19 i20 i21 (t0 + t1) (0 : Int32)
  else
    if i7 = (0 : Int32) then
      L_law_b229 NF ob i2 i8 i9 i10 l11 i13 l14 l16 i18 i19 i20 i21 (t0 + t1) (1 : Int32)
    else
      if i3 = i1 then
        L_law_b229 NF ob i2 i8 i9 i10 l11 i13 l14 l16 i18 i19 i20 i21 (t0 + t1) (0 : Int32)
      else
        L_law_b229 NF ob i2 i8 i9 i10 l11 i13 l14 l16 i18 i19 i20 i21 (t0 + t1) (1 : Int32)
set_option maxRecDepth 65536 in
set_option maxHeartbeats 4000000 in
theorem L_law_b206_p {C : Ctx} {res : Int32} {NF : Nat} (ob : Rec) (i1 : Int32) (i2 : Int32) (i3 : Int32) (i6 : Int32) (i7 : Int32) (i8 : Int32) (i9 : Int32) (i10 : Int32) (l11 : Int64) (i13 : Int32) (l14 : Int64) (l16 : Int64) (i18 : Int32) (i19 : Int32) (i20 : Int32) (i21 : Int32) (t0 : Int32) (t1 : Int32) (hf : L_law_b206 NF ob i1 i2 i3 i6 i7 i8 i9 i10 l11 i13 l14 l16 i18 i19 i20 i21 t0 t1 = some res) : Runs C B0 18 1392 206 [vn, vi i1, vi i2, vi i3, vn, vn, vi i6, vi i7, vi i8, vi i9, vi i10, vl l11, v2, vi i13, vl l14, v2, vl l16, v2, vi i18, vi i19, vi i20, vi i21, vn, vn, vn, vn, vn] [.int t1, .int t0] (C.2.2.1 + 1 + 17, (C.2.2.1, 17, ob) :: []) (fun v _ => v = (some (.int res))) := by
  delta L_law_b206 at hf
  refine Runs.iadd d0_206 <| Runs.istore (P' := [vn, vi i1, vi i2, vi i3, vn, vn, vi i6, vi i7, vi i8, vi i9, vi i10, vl l11, v2, vi i13, vl l14, v2, vl l16, v2, vi i18, vi i19, vi i20, vi i21, vi (t0 + t1), vn, vn, vn, vn]) d0_207 (by decide) rfl <| Runs.iload d0_209 rfl <| ?_
  refine ite_el hf (fun hc32 hf => ?_) (fun hc32 hf => ?_)
  · refine Runs.ifY (pc' := 228) d0_211 (teq hc32).1 (by decide) <| ?_
    exact Runs.iconst d0_228 ci_0 <| Runs.forget [false, false, true, false, false, false, false, false, true, true, true, true, true, true, true, true, true, true, true, true, true, true, true, false, false, false, false] rfl <| L_law_b229_p ob i2 i8 i9 i10 l11 i13 l14 l16 i18 i19 i20 i21 (t0 + t1) (0 : Int32) hf
  · refine Runs.ifN d0_211 (feq hc32).1 <| ?_
    refine Runs.iload d0_214 rfl <| ?_
    refine ite_el hf (fun hc33 hf => ?_) (fun hc33 hf => ?_)
    · refine Runs.ifY (pc' := 224) d0_216 (teq hc33).1 (by decide) <| ?_
      exact Runs.iconst d0_224 ci_1 <| Runs.goto (pc' := 229) d0_225 (by decide) <| Runs.forget [false, false, true, false, false, false, false, false, true, true, true, true, true, true, true, true, true, true, true, true, true, true, true, false, false, false, false] rfl <| L_law_b229_p ob i2 i8 i9 i10 l11 i13 l14 l16 i18 i19 i20 i21 (t0 + t1) (1 : Int32) hf
    · refine Runs.ifN d0_216 (feq hc33).1 <| ?_
      refine Runs.iloadN d0_219 rfl <| Runs.iloadN d0_220 rfl <| ?_
      refine ite_el hf (fun hc34 hf => ?_) (fun hc34 hf => ?_)
      · refine Runs.icY (pc' := 228) d0_221 (teq hc34).1 (by decide) <| ?_
        exact Runs.iconst d0_228 ci_0 <| Runs.forget [false, false, true, false, false, false, false, false, true, true, true, true, true, true, true, true, true, true, true, true, true, true, true, false, false, false, false] rfl <| L_law_b229_p ob i2 i8 i9 i10 l11 i13 l14 l16 i18 i19 i20 i21 (t0 + t1) (0 : Int32) hf
      · refine Runs.icN d0_221 (feq hc34).1 <| ?_
        exact Runs.iconst d0_224 ci_1 <| Runs.goto (pc' := 229) d0_225 (by decide) <| Runs.forget [false, false, true, false, false, false, false, false, true, true, true, true, true, true, true, true, true, true, true, true, true, true, true, false, false, false, false] rfl <| L_law_b229_p ob i2 i8 i9 i10 l11 i13 l14 l16 i18 i19 i20 i21 (t0 + t1) (1 : Int32) hf
def L_law_b195 (NF : Nat) (ob : Rec) (i1 : Int32) (i2 : Int32) (i3 : Int32) (i6 : Int32) (i7 : Int32) (i8 : Int32) (i9 : Int32) (i10 : Int32) (l11 : Int64) (i13 : Int32) (l14 : Int64) (l16 : Int64) (i18 : Int32) (i19 : Int32) (i20 : Int32) (i21 : Int32) (t0 : Int32) (t1 : Int32) : Option (Int32) :=
  if i7 = (0 : Int32) then
    L_law_b206 NF ob i1 i2 i3 i6 i7 i8 i9 i10 l11 i13 l14 l16 i18 i19 i20 i21 (t0 + t1) (0 : Int32)
  else
    L_law_b206 NF ob i1 i2 i3 i6 i7 i8 i9 i10 l11 i13 l14 l16 i18 i19 i20 i21 (t0 + t1) (1 : Int32)
set_option maxRecDepth 65536 in
set_option maxHeartbeats 4000000 in
theorem L_law_b195_p {C : Ctx} {res : Int32} {NF : Nat} (ob : Rec) (i1 : Int32) (i2 : Int32) (i3 : Int32) (i6 : Int32) (i7 : Int32) (i8 : Int32) (i9 : Int32) (i10 : Int32) (l11 : Int64) (i13 : Int32) (l14 : Int64) (l16 : Int64) (i18 : Int32) (i19 : Int32) (i20 : Int32) (i21 : Int32) (t0 : Int32) (t1 : Int32) (hf : L_law_b195 NF ob i1 i2 i3 i6 i7 i8 i9 i10 l11 i13 l14 l16 i18 i19 i20 i21 t0 t1 = some res) : Runs C B0 18 1392 195 [vn, vi i1, vi i2, vi i3, vn, vn, vi i6, vi i7, vi i8, vi i9, vi i10, vl l11, v2, vi i13, vl l14, v2, vl l16, v2, vi i18, vi i19, vi i20, vi i21, vn, vn, vn, vn, vn] [.int t1, .int t0] (C.2.2.1 + 1 + 17, (C.2.2.1, 17, ob) :: []) (fun v _ => v = (some (.int res))) := by
  delta L_law_b195 at hf
  refine Runs.iadd d0_195 <| Runs.iload d0_196 rfl <| ?_
  refine ite_el hf (fun hc31 hf => ?_) (fun hc31 hf => ?_)
  · refine Runs.ifY (pc' := 205) d0_198 (teq hc31).1 (by decide) <| ?_
    exact Runs.iconst d0_205 ci_0 <| L_law_b206_p ob i1 i2 i3 i6 i7 i8 i9 i10 l11 i13 l14 l16 i18 i19 i20 i21 (t0 + t1) (0 : Int32) hf
  · refine Runs.ifN d0_198 (feq hc31).1 <| ?_
    exact Runs.iconst d0_201 ci_1 <| Runs.goto (pc' := 206) d0_202 (by decide) <| L_law_b206_p ob i1 i2 i3 i6 i7 i8 i9 i10 l11 i13 l14 l16 i18 i19 i20 i21 (t0 + t1) (1 : Int32) hf
def L_law_b182 (NF : Nat) (ob : Rec) (i1 : Int32) (i2 : Int32) (i3 : Int32) (i6 : Int32) (i7 : Int32) (i8 : Int32) (i9 : Int32) (i10 : Int32) (l11 : Int64) (i13 : Int32) (l14 : Int64) (l16 : Int64) (i18 : Int32) (i19 : Int32) (i20 : Int32) (t0 : Int32) : Option (Int32) :=
  if i6 = (0 : Int32) then
    L_law_b195 NF ob i1 i2 i3 i6 i7 i8 i9 i10 l11 i13 l14 l16 i18 i19 i20 t0 (2 : Int32) (0 : Int32)
  else
    L_law_b195 NF ob i1 i2 i3 i6 i7 i8 i9 i10 l11 i13 l14 l16 i18 i19 i20 t0 (2 : Int32) (1 : Int32)
set_option maxRecDepth 65536 in
set_option maxHeartbeats 4000000 in
theorem L_law_b182_p {C : Ctx} {res : Int32} {NF : Nat} (ob : Rec) (i1 : Int32) (i2 : Int32) (i3 : Int32) (i6 : Int32) (i7 : Int32) (i8 : Int32) (i9 : Int32) (i10 : Int32) (l11 : Int64) (i13 : Int32) (l14 : Int64) (l16 : Int64) (i18 : Int32) (i19 : Int32) (i20 : Int32) (t0 : Int32) (hf : L_law_b182 NF ob i1 i2 i3 i6 i7 i8 i9 i10 l11 i13 l14 l16 i18 i19 i20 t0 = some res) : Runs C B0 18 1392 182 [vn, vi i1, vi i2, vi i3, vn, vn, vi i6, vi i7, vi i8, vi i9, vi i10, vl l11, v2, vi i13, vl l14, v2, vl l16, v2, vi i18, vi i19, vi i20, vn, vn, vn, vn, vn, vn] [.int t0] (C.2.2.1 + 1 + 17, (C.2.2.1, 17, ob) :: []) (fun v _ => v = (some (.int res))) := by
  delta L_law_b182 at hf
  refine Runs.istore (P' := [vn, vi i1, vi i2, vi i3, vn, vn, vi i6, vi i7, vi i8, vi i9, vi i10, vl l11, v2, vi i13, vl l14, v2, vl l16, v2, vi i18, vi i19, vi i20, vi t0, vn, vn, vn, vn, vn]) d0_182 (by decide) rfl <| Runs.iconst d0_184 ci_2 <| Runs.iload d0_185 rfl <| ?_
  refine ite_el hf (fun hc30 hf => ?_) (fun hc30 hf => ?_)
  · refine Runs.ifY (pc' := 194) d0_187 (teq hc30).1 (by decide) <| ?_
    exact Runs.iconst d0_194 ci_0 <| L_law_b195_p ob i1 i2 i3 i6 i7 i8 i9 i10 l11 i13 l14 l16 i18 i19 i20 t0 (2 : Int32) (0 : Int32) hf
  · refine Runs.ifN d0_187 (feq hc30).1 <| ?_
    exact Runs.iconst d0_190 ci_1 <| Runs.goto (pc' := 195) d0_191 (by decide) <| L_law_b195_p ob i1 i2 i3 i6 i7 i8 i9 i10 l11 i13 l14 l16 i18 i19 i20 t0 (2 : Int32) (1 : Int32) hf
def L_law_b160 (NF : Nat) (ob : Rec) (i1 : Int32) (i2 : Int32) (i3 : Int32) (i6 : Int32) (i7 : Int32) (i8 : Int32) (i9 : Int32) (i10 : Int32) (l11 : Int64) (i13 : Int32) (l14 : Int64) (l16 : Int64) (i18 : Int32) (i19 : Int32) (t0 : Int32) : Option (Int32) :=
  if i7 = (0 : Int32) then
    L_law_b182 NF ob i1 i2 i3 i6 i7 i8 i9 i10 l11 i13 l14 l16 i18 i19 t0 (-3 : Int32)
  else
    if i6 = (0 : Int32) then
      L_law_b182 NF ob i1 i2 i3 i6 i7 i8 i9 i10 l11 i13 l14 l16 i18 i19 t0 (2 : Int32)
    else
      L_law_b182 NF ob i1 i2 i3 i6 i7 i8 i9 i10 l11 i13 l14 l16 i18 i19 t0 (3 : Int32)
set_option maxRecDepth 65536 in
set_option maxHeartbeats 4000000 in
theorem L_law_b160_p {C : Ctx} {res : Int32} {NF : Nat} (ob : Rec) (i1 : Int32) (i2 : Int32) (i3 : Int32) (i6 : Int32) (i7 : Int32) (i8 : Int32) (i9 : Int32) (i10 : Int32) (l11 : Int64) (i13 : Int32) (l14 : Int64) (l16 : Int64) (i18 : Int32) (i19 : Int32) (t0 : Int32) (hf : L_law_b160 NF ob i1 i2 i3 i6 i7 i8 i9 i10 l11 i13 l14 l16 i18 i19 t0 = some res) : Runs C B0 18 1392 160 [vn, vi i1, vi i2, vi i3, vn, vn, vi i6, vi i7, vi i8, vi i9, vi i10, vl l11, v2, vi i13, vl l14, v2, vl l16, v2, vi i18, vi i19, vn, vn, vn, vn, vn, vn, vn] [.int t0] (C.2.2.1 + 1 + 17, (C.2.2.1, 17, ob) :: []) (fun v _ => v = (some (.int res))) := by
  delta L_law_b160 at hf
  refine Runs.istore (P' := [vn, vi i1, vi i2, vi i3, vn, vn, vi i6, vi i7, vi i8, vi i9, vi i10, vl l11, v2, vi i13, vl l14, v2, vl l16, v2, vi i18, vi i19, vi t0, vn, vn, vn, vn, vn, vn]) d0_160 (by decide) rfl <| Runs.iload d0_162 rfl <| ?_
  refine ite_el hf (fun hc28 hf => ?_) (fun hc28 hf => ?_)
  · refine Runs.ifY (pc' := 180) d0_164 (teq hc28).1 (by decide) <| ?_
    exact Runs.bipush d0_180 cb_m3 <| L_law_b182_p ob i1 i2 i3 i6 i7 i8 i9 i10 l11 i13 l14 l16 i18 i19 t0 (-3 : Int32) hf
  · refine Runs.ifN d0_164 (feq hc28).1 <| ?_
    refine Runs.iload d0_167 rfl <| ?_
    refine ite_el hf (fun hc29 hf => ?_) (fun hc29 hf => ?_)
    · refine Runs.ifY (pc' := 176) d0_169 (teq hc29).1 (by decide) <| ?_
      exact Runs.iconst d0_176 ci_2 <| Runs.goto (pc' := 182) d0_177 (by decide) <| L_law_b182_p ob i1 i2 i3 i6 i7 i8 i9 i10 l11 i13 l14 l16 i18 i19 t0 (2 : Int32) hf
    · refine Runs.ifN d0_169 (feq hc29).1 <| ?_
      exact Runs.iconst d0_172 ci_3 <| Runs.goto (pc' := 182) d0_173 (by decide) <| L_law_b182_p ob i1 i2 i3 i6 i7 i8 i9 i10 l11 i13 l14 l16 i18 i19 t0 (3 : Int32) hf
def L_law_b71 (NF : Nat) (ob : Rec) (i1 : Int32) (i2 : Int32) (i3 : Int32) (i6 : Int32) (t0 : Int32) : Option (Int32) :=
  bind2 (X_begin ob (0 : Int32)) fun r5 q6 =>
  bind2 (X_put q6 (0 : Int32) i1 i2) fun r8 q9 =>
  bind2 (X_del q9 (0 : Int32) i3) fun r11 q12 =>
  (X_pubRow q12 i1).bind fun r14 =>
  bind2 (X_commit NF q12 (0 : Int32)) fun r16 q17 =>
  (X_pubRow q17 i1).bind fun r19 =>
  (X_pubRow q17 i3).bind fun r21 =>
  (X_info NF q17 (6 : Int32)).bind fun r23 =>
  (X_info NF q17 (1 : Int32)).bind fun r25 =>
  if i6 = (0 : Int32) then
    L_law_b160 NF q17 i1 i2 i3 i6 t0 r5 r8 r11 r14 r16 r19 r21 r23 r25 (-3 : Int32)
  else
    L_law_b160 NF q17 i1 i2 i3 i6 t0 r5 r8 r11 r14 r16 r19 r21 r23 r25 (2 : Int32)
set_option maxRecDepth 65536 in
set_option maxHeartbeats 4000000 in
theorem L_law_b71_p {C : Ctx} {res : Int32} {NF : Nat} (ob : Rec) (i1 : Int32) (i2 : Int32) (i3 : Int32) (i6 : Int32) (t0 : Int32) (hf : L_law_b71 NF ob i1 i2 i3 i6 t0 = some res) : Runs C B0 18 1392 71 [vn, vi i1, vi i2, vi i3, vr C.2.2.1, vn, vi i6, vn, vn, vn, vn, vn, vn, vn, vn, vn, vn, vn, vn, vn, vn, vn, vn, vn, vn, vn, vn] [.int t0] (C.2.2.1 + 1 + 17, (C.2.2.1, 17, ob) :: []) (fun v _ => v = (some (.int res))) := by
  delta L_law_b71 at hf
  refine Runs.istore (P' := [vn, vi i1, vi i2, vi i3, vr C.2.2.1, vn, vi i6, vi t0, vn, vn, vn, vn, vn, vn, vn, vn, vn, vn, vn, vn, vn, vn, vn, vn, vn, vn, vn]) d0_71 (by decide) rfl <| Runs.aload d0_73 rfl <| Runs.iconst d0_75 ci_0 <| ?_
  refine bind2_el hf fun r5 q6 hg7 hf => ?_
  refine Runs.callV (N := B3) (W := 0) (as := [.int (0 : Int32)]) (S' := []) d0_76 w69 w70 w71 w72 cw3 ar3 rk0_3_0 (by decide) rfl rfl (X_begin_pay hg7) <| ans1 <| Runs.istore (P' := [vn, vi i1, vi i2, vi i3, vr C.2.2.1, vn, vi i6, vi t0, vi r5, vn, vn, vn, vn, vn, vn, vn, vn, vn, vn, vn, vn, vn, vn, vn, vn, vn, vn]) d0_79 (by decide) rfl <| Runs.aload d0_81 rfl <| Runs.iconst d0_83 ci_0 <| Runs.iloadN d0_84 rfl <| Runs.iloadN d0_85 rfl <| ?_
  refine bind2_el hf fun r8 q9 hg10 hf => ?_
  refine Runs.callV (N := B7) (W := 0) (as := [.int (0 : Int32), .int i1, .int i2]) (S' := []) d0_86 w86 w87 w88 w89 cw7 ar7 rk0_7_0 (by decide) rfl rfl (X_put_pay hg10) <| ans1 <| Runs.istore (P' := [vn, vi i1, vi i2, vi i3, vr C.2.2.1, vn, vi i6, vi t0, vi r5, vi r8, vn, vn, vn, vn, vn, vn, vn, vn, vn, vn, vn, vn, vn, vn, vn, vn, vn]) d0_89 (by decide) rfl <| Runs.aload d0_91 rfl <| Runs.iconst d0_93 ci_0 <| Runs.iloadN d0_94 rfl <| ?_
  refine bind2_el hf fun r11 q12 hg13 hf => ?_
  refine Runs.callV (N := B11) (W := 0) (as := [.int (0 : Int32), .int i3]) (S' := []) d0_95 w103 w104 w105 w106 cw11 ar11 rk0_11_0 (by decide) rfl rfl (X_del_pay hg13) <| ans1 <| Runs.istore (P' := [vn, vi i1, vi i2, vi i3, vr C.2.2.1, vn, vi i6, vi t0, vi r5, vi r8, vi r11, vn, vn, vn, vn, vn, vn, vn, vn, vn, vn, vn, vn, vn, vn, vn, vn]) d0_98 (by decide) rfl <| Runs.aload d0_100 rfl <| Runs.iloadN d0_102 rfl <| ?_
  refine bind_el hf fun r14 hg15 hf => ?_
  refine Runs.callV (N := B12) (W := 0) (as := [.int i1]) (S' := []) d0_103 w108 w109 w110 w111 cw12 ar12 rk0_12_0 (by decide) rfl rfl (X_pubRow_pay hg15) <| ans1 <| Runs.lstore (P' := [vn, vi i1, vi i2, vi i3, vr C.2.2.1, vn, vi i6, vi t0, vi r5, vi r8, vi r11, vl r14, v2, vn, vn, vn, vn, vn, vn, vn, vn, vn, vn, vn, vn, vn, vn]) d0_106 (by decide) rfl <| Runs.aload d0_108 rfl <| Runs.iconst d0_110 ci_0 <| ?_
  refine bind2_el hf fun r16 q17 hg18 hf => ?_
  refine Runs.callV (N := B13) (W := 0) (as := [.int (0 : Int32)]) (S' := []) d0_111 w114 w115 w116 w117 cw13 ar13 rk0_13_0 (by decide) rfl rfl (X_commit_pay hg18) <| ans1 <| Runs.istore (P' := [vn, vi i1, vi i2, vi i3, vr C.2.2.1, vn, vi i6, vi t0, vi r5, vi r8, vi r11, vl r14, v2, vi r16, vn, vn, vn, vn, vn, vn, vn, vn, vn, vn, vn, vn, vn]) d0_114 (by decide) rfl <| Runs.aload d0_116 rfl <| Runs.iloadN d0_118 rfl <| ?_
  refine bind_el hf fun r19 hg20 hf => ?_
  refine Runs.callV (N := B12) (W := 0) (as := [.int i1]) (S' := []) d0_119 w108 w109 w110 w111 cw12 ar12 rk0_12_0 (by decide) rfl rfl (X_pubRow_pay hg20) <| ans1 <| Runs.lstore (P' := [vn, vi i1, vi i2, vi i3, vr C.2.2.1, vn, vi i6, vi t0, vi r5, vi r8, vi r11, vl r14, v2, vi r16, vl r19, v2, vn, vn, vn, vn, vn, vn, vn, vn, vn, vn, vn]) d0_122 (by decide) rfl <| Runs.aload d0_124 rfl <| Runs.iloadN d0_126 rfl <| ?_
  refine bind_el hf fun r21 hg22 hf => ?_
  refine Runs.callV (N := B12) (W := 0) (as := [.int i3]) (S' := []) d0_127 w108 w109 w110 w111 cw12 ar12 rk0_12_0 (by decide) rfl rfl (X_pubRow_pay hg22) <| ans1 <| Runs.lstore (P' := [vn, vi i1, vi i2, vi i3, vr C.2.2.1, vn, vi i6, vi t0, vi r5, vi r8, vi r11, vl r14, v2, vi r16, vl r19, v2, vl r21, v2, vn, vn, vn, vn, vn, vn, vn, vn, vn]) d0_130 (by decide) rfl <| Runs.aload d0_132 rfl <| Runs.bipush d0_134 cb_6 <| ?_
  refine bind_el hf fun r23 hg24 hf => ?_
  refine Runs.callV (N := B15) (W := 0) (as := [.int (6 : Int32)]) (S' := []) d0_136 w123 w124 w125 w126 cw15 ar15 rk0_15_0 (by decide) rfl rfl (X_info_pay hg24) <| ans1 <| Runs.istore (P' := [vn, vi i1, vi i2, vi i3, vr C.2.2.1, vn, vi i6, vi t0, vi r5, vi r8, vi r11, vl r14, v2, vi r16, vl r19, v2, vl r21, v2, vi r23, vn, vn, vn, vn, vn, vn, vn, vn]) d0_139 (by decide) rfl <| Runs.aload d0_141 rfl <| Runs.iconst d0_143 ci_1 <| ?_
  refine bind_el hf fun r25 hg26 hf => ?_
  refine Runs.callV (N := B15) (W := 0) (as := [.int (1 : Int32)]) (S' := []) d0_144 w123 w124 w125 w126 cw15 ar15 rk0_15_0 (by decide) rfl rfl (X_info_pay hg26) <| ans1 <| Runs.istore (P' := [vn, vi i1, vi i2, vi i3, vr C.2.2.1, vn, vi i6, vi t0, vi r5, vi r8, vi r11, vl r14, v2, vi r16, vl r19, v2, vl r21, v2, vi r23, vi r25, vn, vn, vn, vn, vn, vn, vn]) d0_147 (by decide) rfl <| Runs.iload d0_149 rfl <| ?_
  refine ite_el hf (fun hc27 hf => ?_) (fun hc27 hf => ?_)
  · refine Runs.ifY (pc' := 158) d0_151 (teq hc27).1 (by decide) <| ?_
    exact Runs.bipush d0_158 cb_m3 <| Runs.forget [false, true, true, true, false, false, true, true, true, true, true, true, true, true, true, true, true, true, true, true, false, false, false, false, false, false, false] rfl <| L_law_b160_p q17 i1 i2 i3 i6 t0 r5 r8 r11 r14 r16 r19 r21 r23 r25 (-3 : Int32) hf
  · refine Runs.ifN d0_151 (feq hc27).1 <| ?_
    exact Runs.iconst d0_154 ci_2 <| Runs.goto (pc' := 160) d0_155 (by decide) <| Runs.forget [false, true, true, true, false, false, true, true, true, true, true, true, true, true, true, true, true, true, true, true, false, false, false, false, false, false, false] rfl <| L_law_b160_p q17 i1 i2 i3 i6 t0 r5 r8 r11 r14 r16 r19 r21 r23 r25 (2 : Int32) hf
def L_law_b54 (NF : Nat) (ob : Rec) (i1 : Int32) (i2 : Int32) (i3 : Int32) (i5 : Int32) (t0 : Int32) : Option (Int32) :=
  if i3 < (0 : Int32) then
    L_law_b71 NF ob i1 i2 i3 t0 (0 : Int32)
  else
    if i3 < i5 then
      L_law_b71 NF ob i1 i2 i3 t0 (1 : Int32)
    else
      L_law_b71 NF ob i1 i2 i3 t0 (0 : Int32)
set_option maxRecDepth 65536 in
set_option maxHeartbeats 4000000 in
theorem L_law_b54_p {C : Ctx} {res : Int32} {NF : Nat} (ob : Rec) (i1 : Int32) (i2 : Int32) (i3 : Int32) (i5 : Int32) (t0 : Int32) (hf : L_law_b54 NF ob i1 i2 i3 i5 t0 = some res) : Runs C B0 18 1392 54 [vn, vi i1, vi i2, vi i3, vr C.2.2.1, vi i5, vn, vn, vn, vn, vn, vn, vn, vn, vn, vn, vn, vn, vn, vn, vn, vn, vn, vn, vn, vn, vn] [.int t0] (C.2.2.1 + 1 + 17, (C.2.2.1, 17, ob) :: []) (fun v _ => v = (some (.int res))) := by
  delta L_law_b54 at hf
  refine Runs.istore (P' := [vn, vi i1, vi i2, vi i3, vr C.2.2.1, vi i5, vi t0, vn, vn, vn, vn, vn, vn, vn, vn, vn, vn, vn, vn, vn, vn, vn, vn, vn, vn, vn, vn]) d0_54 (by decide) rfl <| Runs.iloadN d0_56 rfl <| ?_
  refine ite_el hf (fun hc3 hf => ?_) (fun hc3 hf => ?_)
  · refine Runs.ifY (pc' := 70) d0_57 (tlt hc3).1 (by decide) <| ?_
    exact Runs.iconst d0_70 ci_0 <| Runs.forget [false, true, true, true, true, false, true, false, false, false, false, false, false, false, false, false, false, false, false, false, false, false, false, false, false, false, false] rfl <| L_law_b71_p ob i1 i2 i3 t0 (0 : Int32) hf
  · refine Runs.ifN d0_57 (flt hc3).1 <| ?_
    refine Runs.iloadN d0_60 rfl <| Runs.iload d0_61 rfl <| ?_
    refine ite_el hf (fun hc4 hf => ?_) (fun hc4 hf => ?_)
    · refine Runs.icN d0_63 (tlt hc4).2.1 <| ?_
      exact Runs.iconst d0_66 ci_1 <| Runs.goto (pc' := 71) d0_67 (by decide) <| Runs.forget [false, true, true, true, true, false, true, false, false, false, false, false, false, false, false, false, false, false, false, false, false, false, false, false, false, false, false] rfl <| L_law_b71_p ob i1 i2 i3 t0 (1 : Int32) hf
    · refine Runs.icY (pc' := 70) d0_63 (flt hc4).2.1 (by decide) <| ?_
      exact Runs.iconst d0_70 ci_0 <| Runs.forget [false, true, true, true, true, false, true, false, false, false, false, false, false, false, false, false, false, false, false, false, false, false, false, false, false, false, false] rfl <| L_law_b71_p ob i1 i2 i3 t0 (0 : Int32) hf
def L_law_b37 (NF : Nat) (ob : Rec) (i1 : Int32) (i2 : Int32) (i3 : Int32) (t0 : Int32) : Option (Int32) :=
  if i1 < (0 : Int32) then
    L_law_b54 NF ob i1 i2 i3 t0 (0 : Int32)
  else
    if i1 < t0 then
      L_law_b54 NF ob i1 i2 i3 t0 (1 : Int32)
    else
      L_law_b54 NF ob i1 i2 i3 t0 (0 : Int32)
set_option maxRecDepth 65536 in
set_option maxHeartbeats 4000000 in
theorem L_law_b37_p {C : Ctx} {res : Int32} {NF : Nat} (ob : Rec) (i1 : Int32) (i2 : Int32) (i3 : Int32) (t0 : Int32) (hf : L_law_b37 NF ob i1 i2 i3 t0 = some res) : Runs C B0 18 1392 37 [vn, vi i1, vi i2, vi i3, vr C.2.2.1, vn, vn, vn, vn, vn, vn, vn, vn, vn, vn, vn, vn, vn, vn, vn, vn, vn, vn, vn, vn, vn, vn] [.int t0] (C.2.2.1 + 1 + 17, (C.2.2.1, 17, ob) :: []) (fun v _ => v = (some (.int res))) := by
  delta L_law_b37 at hf
  refine Runs.istore (P' := [vn, vi i1, vi i2, vi i3, vr C.2.2.1, vi t0, vn, vn, vn, vn, vn, vn, vn, vn, vn, vn, vn, vn, vn, vn, vn, vn, vn, vn, vn, vn, vn]) d0_37 (by decide) rfl <| Runs.iloadN d0_39 rfl <| ?_
  refine ite_el hf (fun hc1 hf => ?_) (fun hc1 hf => ?_)
  · refine Runs.ifY (pc' := 53) d0_40 (tlt hc1).1 (by decide) <| ?_
    exact Runs.iconst d0_53 ci_0 <| L_law_b54_p ob i1 i2 i3 t0 (0 : Int32) hf
  · refine Runs.ifN d0_40 (flt hc1).1 <| ?_
    refine Runs.iloadN d0_43 rfl <| Runs.iload d0_44 rfl <| ?_
    refine ite_el hf (fun hc2 hf => ?_) (fun hc2 hf => ?_)
    · refine Runs.icN d0_46 (tlt hc2).2.1 <| ?_
      exact Runs.iconst d0_49 ci_1 <| Runs.goto (pc' := 54) d0_50 (by decide) <| L_law_b54_p ob i1 i2 i3 t0 (1 : Int32) hf
    · refine Runs.icY (pc' := 53) d0_46 (flt hc2).2.1 (by decide) <| ?_
      exact Runs.iconst d0_53 ci_0 <| L_law_b54_p ob i1 i2 i3 t0 (0 : Int32) hf
def L_law (NF : Nat) (i0 : Int32) (i1 : Int32) (i2 : Int32) (i3 : Int32) : Option (Int32) :=
  (X_init i0 (2 : Int32) (16 : Int32) (2 : Int32)).bind fun q46 =>
  if i0 < (8 : Int32) then
    L_law_b37 NF q46 i1 i2 i3 (8 : Int32)
  else
    if (32 : Int32) < i0 then
      L_law_b37 NF q46 i1 i2 i3 (32 : Int32)
    else
      L_law_b37 NF q46 i1 i2 i3 i0
set_option maxRecDepth 65536 in
set_option maxHeartbeats 4000000 in
theorem L_law_p {C : Ctx} {res : Int32} {NF : Nat} (i0 : Int32) (i1 : Int32) (i2 : Int32) (i3 : Int32) (hf : L_law NF i0 i1 i2 i3 = some res) : Runs C B0 0 0 0 [vi i0, vi i1, vi i2, vi i3, vn, vn, vn, vn, vn, vn, vn, vn, vn, vn, vn, vn, vn, vn, vn, vn, vn, vn, vn, vn, vn, vn, vn] [] (C.2.2.1, []) (fun v _ => v = (some (.int res))) := by
  delta L_law at hf
  refine Runs.newK (k' := 1) (n' := 27) d0_0 w0 ⟨by decide, by decide⟩ rfl rfl (by intro x hx; cases hx) <| Runs.dup d0_3 rfl <| Runs.iloadN d0_4 rfl <| Runs.iconst d0_5 ci_2 <| Runs.bipush d0_6 cb_16 <| Runs.iconst d0_8 ci_2 <| ?_
  refine bind_el hf fun q46 hg47 hf => ?_
  refine Runs.callI (N := B1) (k' := 18) (n' := 1392) (W := 1) (as := [.int i0, .int (2 : Int32), .int (16 : Int32), .int (2 : Int32)]) (S' := [.ref C.2.2.1]) d0_9 rfl rfl w3 w4 cw1 ar1 (by decide) rfl rfl rfl rfl (X_init_pay hg47) <| ans0 <| Runs.astore (P' := [vi i0, vi i1, vi i2, vi i3, vr C.2.2.1, vn, vn, vn, vn, vn, vn, vn, vn, vn, vn, vn, vn, vn, vn, vn, vn, vn, vn, vn, vn, vn, vn]) d0_12 (by decide) rfl <| Runs.iloadN d0_14 rfl <| Runs.bipush d0_15 cb_8 <| ?_
  refine ite_el hf (fun hc48 hf => ?_) (fun hc48 hf => ?_)
  · refine Runs.icN d0_17 (tlt hc48).2.1 <| ?_
    exact Runs.bipush d0_20 cb_8 <| Runs.goto (pc' := 37) d0_22 (by decide) <| Runs.forget [false, true, true, true, true, false, false, false, false, false, false, false, false, false, false, false, false, false, false, false, false, false, false, false, false, false, false] rfl <| L_law_b37_p q46 i1 i2 i3 (8 : Int32) hf
  · refine Runs.icY (pc' := 25) d0_17 (flt hc48).2.1 (by decide) <| ?_
    refine Runs.iloadN d0_25 rfl <| Runs.bipush d0_26 cb_32 <| ?_
    refine ite_el hf (fun hc49 hf => ?_) (fun hc49 hf => ?_)
    · refine Runs.icN d0_28 (tlt hc49).2.2.2 <| ?_
      exact Runs.bipush d0_31 cb_32 <| Runs.goto (pc' := 37) d0_33 (by decide) <| Runs.forget [false, true, true, true, true, false, false, false, false, false, false, false, false, false, false, false, false, false, false, false, false, false, false, false, false, false, false] rfl <| L_law_b37_p q46 i1 i2 i3 (32 : Int32) hf
    · refine Runs.icY (pc' := 36) d0_28 (flt hc49).2.2.2 (by decide) <| ?_
      exact Runs.iloadN d0_36 rfl <| Runs.forget [false, true, true, true, true, false, false, false, false, false, false, false, false, false, false, false, false, false, false, false, false, false, false, false, false, false, false] rfl <| L_law_b37_p q46 i1 i2 i3 i0 hf
theorem L_law_pay {C : Ctx} {res : Int32} {NF : Nat} {i0 : Int32} {i1 : Int32} {i2 : Int32} {i3 : Int32} (hf : L_law NF i0 i1 i2 i3 = some res) : Pays C B0 [.int i0, .int i1, .int i2, .int i3] (C.2.2.1, []) (fun v _ => v = (some (.int res))) :=
  Pays.of pnL (Nat.le_of_ble_eq_true rfl) (P := [vi i0, vi i1, vi i2, vi i3, vn, vn, vn, vn, vn, vn, vn, vn, vn, vn, vn, vn, vn, vn, vn, vn, vn, vn, vn, vn, vn, vn, vn]) 23 rfl (L_law_p i0 i1 i2 i3 hf)
-- no word: X_info at 84: method #160
--OWED--
theorem gI_sI (ob : Rec) (k j : Nat) (v : Int32) : gI (sI ob k v) j = if j = k then v else gI ob j := rfl
theorem gI_sA (ob : Rec) (k j : Nat) (i v : Int32) : gI (sA ob k i v) j = gI ob j := rfl
theorem gI_sJ (ob : Rec) (k j : Nat) (i : Int32) (v : Int64) : gI (sJ ob k i v) j = gI ob j := rfl
theorem gA_sI (ob : Rec) (k j : Nat) (v x : Int32) : gA (sI ob k v) j x = gA ob j x := rfl
theorem gA_sA (ob : Rec) (k j : Nat) (i v x : Int32) : gA (sA ob k i v) j x = if j = k ∧ x = i then v else gA ob j x := rfl
theorem gA_sJ (ob : Rec) (k j : Nat) (i x : Int32) (v : Int64) : gA (sJ ob k i v) j x = gA ob j x := rfl
theorem gJ_sI (ob : Rec) (k j : Nat) (v x : Int32) : gJ (sI ob k v) j x = gJ ob j x := rfl
theorem gJ_sA (ob : Rec) (k j : Nat) (i v x : Int32) : gJ (sA ob k i v) j x = gJ ob j x := rfl
theorem gJ_sJ (ob : Rec) (k j : Nat) (i x : Int32) (v : Int64) : gJ (sJ ob k i v) j x = if j = k ∧ x = i then v else gJ ob j x := rfl
theorem gI_z (k : Nat) : gI zrec k = 0 := rfl
theorem gA_z (k : Nat) (i : Int32) : gA zrec k i = 0 := rfl
theorem gJ_z (k : Nat) (i : Int32) : gJ zrec k i = 0 := rfl
theorem chk_ok {γ : Type} {n i : Int32} {A : Option γ} (h : 0 ≤ i.toInt ∧ i.toInt < n.toInt) : chk n i A = A := by
  have h0 : ¬ i < 0 := by rw [Int32.lt_iff_toInt_lt]; show ¬ i.toInt < 0; omega
  have h1 : i < n := by rw [Int32.lt_iff_toInt_lt]; exact h.2
  unfold chk; rw [if_neg h0, if_pos h1]
theorem lt_i {x y : Int32} : x < y ↔ x.toInt < y.toInt := Int32.lt_iff_toInt_lt
theorem le_i {x y : Int32} : x ≤ y ↔ x.toInt ≤ y.toInt := Int32.le_iff_toInt_le
theorem eq_i32 {x y : Int32} : x = y ↔ x.toInt = y.toInt := Int32.toInt_inj.symm
theorem bm_id {n : Int} (h : -2147483648 ≤ n ∧ n < 2147483648) : n.bmod (2 ^ 32) = n := Int.bmod_eq_of_le (by omega) (by omega)
theorem ad {x y : Int32} (h : -2147483648 ≤ x.toInt + y.toInt ∧ x.toInt + y.toInt < 2147483648) : (x + y).toInt = x.toInt + y.toInt := by rw [Int32.toInt_add, bm_id h]
theorem sb {x y : Int32} (h : -2147483648 ≤ x.toInt - y.toInt ∧ x.toInt - y.toInt < 2147483648) : (x - y).toInt = x.toInt - y.toInt := by rw [Int32.toInt_sub, bm_id h]
theorem ml {x y : Int32} (h : -2147483648 ≤ x.toInt * y.toInt ∧ x.toInt * y.toInt < 2147483648) : (x * y).toInt = x.toInt * y.toInt := by rw [Int32.toInt_mul, bm_id h]
theorem bind2_some {α β γ : Type} (a : α) (b : β) (f : α → β → Option γ) : bind2 (some (a, b)) f = f a b := rfl
theorem t0 : (0 : Int32).toInt = 0 := rfl
theorem t1 : (1 : Int32).toInt = 1 := rfl
theorem t2 : (2 : Int32).toInt = 2 := rfl
theorem t8 : (8 : Int32).toInt = 8 := rfl
theorem t16 : (16 : Int32).toInt = 16 := rfl
theorem t32 : (32 : Int32).toInt = 32 := rfl
theorem t128 : (128 : Int32).toInt = 128 := rfl
theorem succ8 {i : Int32} (h : 0 ≤ i.toInt ∧ i.toInt < 1000) : (i + 1).toInt = i.toInt + 1 := by rw [ad (by rw [t1]; omega), t1]
def clp (a lo hi : Int32) : Int32 := if a < lo then lo else if hi < a then hi else a
theorem clp_b (a lo hi : Int32) (h : lo.toInt ≤ hi.toInt) : lo.toInt ≤ (clp a lo hi).toInt ∧ (clp a lo hi).toInt ≤ hi.toInt := by
  unfold clp
  split
  · omega
  · rename_i h1; rw [lt_i] at h1; split
    · omega
    · rename_i h2; rw [lt_i] at h2; omega
theorem clamp_e (ob : Rec) (a lo hi : Int32) : X_clamp ob a lo hi = some (clp a lo hi) := by
  unfold X_clamp clp; split
  · rfl
  · split <;> rfl
theorem init_e (a b c d : Int32) : ∃ r, X_init a b c d = some r ∧ gI r 0 = clp a 8 32 ∧ gI r 1 = clp b 2 8 ∧ gI r 2 = clp c 16 128 ∧ gI r 3 = clp d 2 32 ∧ (∀ k, 4 ≤ k → gI r k = 0) ∧ (∀ k i, gA r k i = 0) := by
  unfold X_init
  simp only [clamp_e, Option.bind_some]
  refine ⟨_, rfl, rfl, rfl, rfl, rfl, ?_, fun _ _ => rfl⟩
  intro k hk
  simp only [gI_sI, gI_z]
  repeat' split
  all_goals first | rfl | omega
theorem cnt0 (NF : Nat) (ob : Rec) (hn : (gI ob 1).toInt ≤ 8) (hz : ∀ j, gA ob 5 j = 0) (c : Int32) : ∀ (m fuel : Nat) (i : Int32), m < fuel → 0 ≤ i.toInt → i.toInt ≤ (gI ob 1).toInt → (gI ob 1).toInt - i.toInt ≤ m → X_countOpen_l4 NF ob fuel c i = some c := by
  intro m
  induction m with
  | zero =>
    intro fuel i hf h0 h1 h2
    obtain ⟨n, rfl⟩ : ∃ n, fuel = n + 1 := ⟨fuel - 1, by omega⟩
    show X_countOpen_w4 NF ob _ c i = _
    unfold X_countOpen_w4; rw [if_neg (by rw [lt_i]; omega)]
  | succ m ih =>
    intro fuel i hf h0 h1 h2
    obtain ⟨n, rfl⟩ : ∃ n, fuel = n + 1 := ⟨fuel - 1, by omega⟩
    show X_countOpen_w4 NF ob _ c i = _
    unfold X_countOpen_w4
    by_cases hc : i < gI ob 1
    · have hlt := lt_i.mp hc
      have ei := succ8 (i := i) (by omega)
      rw [if_pos hc, if_pos (by rw [lt_i, t8]; omega), chk_ok (by rw [t8]; omega), if_pos (hz i)]
      exact ih n (i + 1) (by omega) (by omega) (by omega) (by omega)
    · rw [if_neg hc]
theorem cnt1 (NF : Nat) (ob : Rec) (hn : (gI ob 1).toInt ≤ 8) (s : Int32) (hs : s.toInt < (gI ob 1).toInt) (hz : ∀ j, gA ob 5 j = if j = s then 1 else 0) : ∀ (m fuel : Nat) (c i : Int32), m < fuel → 0 ≤ i.toInt → i.toInt ≤ (gI ob 1).toInt → (gI ob 1).toInt - i.toInt ≤ m → X_countOpen_l4 NF ob fuel c i = some (if i.toInt ≤ s.toInt then c + 1 else c) := by
  intro m
  induction m with
  | zero =>
    intro fuel c i hf h0 h1 h2
    obtain ⟨n, rfl⟩ : ∃ n, fuel = n + 1 := ⟨fuel - 1, by omega⟩
    show X_countOpen_w4 NF ob _ c i = _
    unfold X_countOpen_w4; rw [if_neg (by rw [lt_i]; omega), if_neg (by omega)]
  | succ m ih =>
    intro fuel c i hf h0 h1 h2
    obtain ⟨n, rfl⟩ : ∃ n, fuel = n + 1 := ⟨fuel - 1, by omega⟩
    show X_countOpen_w4 NF ob _ c i = _
    unfold X_countOpen_w4
    by_cases hc : i < gI ob 1
    · have hlt := lt_i.mp hc
      have ei := succ8 (i := i) (by omega)
      rw [if_pos hc, if_pos (by rw [lt_i, t8]; omega), chk_ok (by rw [t8]; omega)]
      by_cases hi : i = s
      · rw [if_neg (by rw [hz, if_pos hi]; decide), ih n (c + 1) (i + 1) (by omega) (by omega) (by omega) (by omega), if_neg (by rw [ei, hi]; omega), if_pos (by rw [hi]; omega)]
      · have hne : i.toInt ≠ s.toInt := fun h => hi (eq_i32.mpr h)
        rw [if_pos (by rw [hz, if_neg hi]), ih n c (i + 1) (by omega) (by omega) (by omega) (by omega)]
        by_cases hl : i.toInt ≤ s.toInt
        · rw [if_pos (by omega), if_pos hl]
        · rw [if_neg (by omega), if_neg hl]
    · have : ¬ i.toInt < (gI ob 1).toInt := fun h => hc (lt_i.mpr h)
      rw [if_neg hc, if_neg (by omega)]
abbrev Slot (ob : Rec) (s : Int32) : Prop := 0 ≤ s.toInt ∧ s.toInt < (gI ob 1).toInt
abbrev Key (ob : Rec) (k : Int32) : Prop := 0 ≤ k.toInt ∧ k.toInt < (gI ob 0).toInt
theorem vs_in {ob : Rec} {s : Int32} (hn : (gI ob 1).toInt ≤ 8) (h : Slot ob s) : X_validSlot ob s = some 1 := by
  unfold X_validSlot; rw [if_neg (by rw [lt_i, t0]; have := h.1; omega), if_pos (lt_i.mpr h.2), if_pos (by rw [lt_i, t8]; have := h.2; omega)]
theorem vs_out {ob : Rec} {s : Int32} (h : ¬ Slot ob s) : X_validSlot ob s = some 0 := by
  unfold X_validSlot
  by_cases c : s < 0
  · rw [if_pos c]
  · rw [if_neg c, if_neg (by intro h'; exact h ⟨by rw [lt_i, t0] at c; omega, lt_i.mp h'⟩)]
theorem vk_in {ob : Rec} {k : Int32} (hn : (gI ob 0).toInt ≤ 32) (h : Key ob k) : X_validKey ob k = some 1 := by
  unfold X_validKey; rw [if_neg (by rw [lt_i, t0]; have := h.1; omega), if_pos (lt_i.mpr h.2), if_pos (by rw [lt_i, t32]; have := h.2; omega)]
theorem vk_out {ob : Rec} {k : Int32} (h : ¬ Key ob k) : X_validKey ob k = some 0 := by
  unfold X_validKey
  by_cases c : k < 0
  · rw [if_pos c]
  · rw [if_neg c, if_neg (by intro h'; exact h ⟨by rw [lt_i, t0] at c; omega, lt_i.mp h'⟩)]
-- USE: wsi
theorem pub_no {ob : Rec} {k : Int32} (h : ¬ Key ob k) : X_pubRow ob k = some 4294967296 := by
  unfold X_pubRow; rw [vk_out h, Option.bind_some, if_pos rfl]
theorem pub_0 {ob : Rec} {k : Int32} (hn : (gI ob 0).toInt ≤ 32) (hz : Key ob k → gA ob 7 k = 0) : X_pubRow ob k = some 4294967296 := by
  by_cases h : Key ob k
  · unfold X_pubRow; rw [vk_in hn h, Option.bind_some, if_neg (by decide), chk_ok (by have := h.1; have := h.2; rw [t32]; omega), if_pos (hz h)]
  · exact pub_no h
theorem pub_1 {ob : Rec} {k : Int32} (hn : (gI ob 0).toInt ≤ 32) (h : Key ob k) (hz : ¬ gA ob 7 k = 0) : X_pubRow ob k = some (gA ob 8 k).toInt64 := by
  have q : ∀ A : Option Int64, chk 32 k A = A := fun A => chk_ok (by have := h.1; have := h.2; rw [t32]; omega)
  unfold X_pubRow; rw [vk_in hn h, Option.bind_some, if_neg (by decide), q, if_neg hz, q]
theorem rows0 (NF : Nat) (ob : Rec) (hn : (gI ob 0).toInt ≤ 32) (hz : ∀ j, gA ob 7 j = 0) (c : Int32) : ∀ (m fuel : Nat) (i : Int32), m < fuel → 0 ≤ i.toInt → i.toInt ≤ (gI ob 0).toInt → (gI ob 0).toInt - i.toInt ≤ m → X_countPubRows_l4 NF ob fuel c i = some c := by
  intro m
  induction m with
  | zero =>
    intro fuel i hf h0 h1 h2
    obtain ⟨n, rfl⟩ : ∃ n, fuel = n + 1 := ⟨fuel - 1, by omega⟩
    show X_countPubRows_w4 NF ob _ c i = _
    unfold X_countPubRows_w4; rw [if_neg (by rw [lt_i]; omega)]
  | succ m ih =>
    intro fuel i hf h0 h1 h2
    obtain ⟨n, rfl⟩ : ∃ n, fuel = n + 1 := ⟨fuel - 1, by omega⟩
    show X_countPubRows_w4 NF ob _ c i = _
    unfold X_countPubRows_w4
    by_cases hc : i < gI ob 0
    · have hlt := lt_i.mp hc
      have ei := succ8 (i := i) (by omega)
      rw [if_pos hc, if_pos (by rw [lt_i, t32]; omega), chk_ok (by rw [t32]; omega), if_pos (hz i)]
      exact ih n (i + 1) (by omega) (by omega) (by omega) (by omega)
    · rw [if_neg hc]
theorem rows1 (NF : Nat) (ob : Rec) (hn : (gI ob 0).toInt ≤ 32) (s : Int32) (hs : s.toInt < (gI ob 0).toInt) (hz : ∀ j, gA ob 7 j = if j = s then 1 else 0) : ∀ (m fuel : Nat) (c i : Int32), m < fuel → 0 ≤ i.toInt → i.toInt ≤ (gI ob 0).toInt → (gI ob 0).toInt - i.toInt ≤ m → X_countPubRows_l4 NF ob fuel c i = some (if i.toInt ≤ s.toInt then c + 1 else c) := by
  intro m
  induction m with
  | zero =>
    intro fuel c i hf h0 h1 h2
    obtain ⟨n, rfl⟩ : ∃ n, fuel = n + 1 := ⟨fuel - 1, by omega⟩
    show X_countPubRows_w4 NF ob _ c i = _
    unfold X_countPubRows_w4; rw [if_neg (by rw [lt_i]; omega), if_neg (by omega)]
  | succ m ih =>
    intro fuel c i hf h0 h1 h2
    obtain ⟨n, rfl⟩ : ∃ n, fuel = n + 1 := ⟨fuel - 1, by omega⟩
    show X_countPubRows_w4 NF ob _ c i = _
    unfold X_countPubRows_w4
    by_cases hc : i < gI ob 0
    · have hlt := lt_i.mp hc
      have ei := succ8 (i := i) (by omega)
      rw [if_pos hc, if_pos (by rw [lt_i, t32]; omega), chk_ok (by rw [t32]; omega)]
      by_cases hi : i = s
      · rw [if_neg (by rw [hz, if_pos hi]; decide), ih n (c + 1) (i + 1) (by omega) (by omega) (by omega) (by omega), if_neg (by rw [ei, hi]; omega), if_pos (by rw [hi]; omega)]
      · have hne : i.toInt ≠ s.toInt := fun h => hi (eq_i32.mpr h)
        rw [if_pos (by rw [hz, if_neg hi]), ih n c (i + 1) (by omega) (by omega) (by omega) (by omega)]
        by_cases hl : i.toInt ≤ s.toInt
        · rw [if_pos (by omega), if_pos hl]
        · rw [if_neg (by omega), if_neg hl]
    · have : ¬ i.toInt < (gI ob 0).toInt := fun h => hc (lt_i.mpr h)
      rw [if_neg hc, if_neg (by omega)]
/-- the law's last part: only what is read counts -/
theorem fin_ok (q : Rec) (a v c i6 i7 : Int32) (r2 r3 r5 r8 : Int32) (l2 : Int64) (vis : Int32)
    (hvis : vis = if i6 = 0 then 0 else if i7 = 0 then 1 else if c = a then 0 else 1)
    (h2 : r2 = if i6 = 0 then -3 else 2) (h3 : r3 = if i7 = 0 then -3 else if i6 = 0 then 2 else 3) (h5 : r5 = (2 + (if i6 = 0 then 0 else 1)) + (if i7 = 0 then 0 else 1)) (hl : l2 = if vis = 0 then 4294967296 else v.toInt64) (h8 : r8 = if vis = 0 then 0 else 1) :
    (if i6 = (0 : Int32) then L_law_b160 60 q a v c i6 i7 1 r2 r3 4294967296 r5 l2 4294967296 r8 0 (-3 : Int32) else L_law_b160 60 q a v c i6 i7 1 r2 r3 4294967296 r5 l2 4294967296 r8 0 (2 : Int32)) = some 1 := by
  subst h2 h3 h5 hl h8 hvis
  by_cases c6 : i6 = 0 <;> by_cases c7 : i7 = 0 <;> by_cases ca : c = a <;> simp [L_law_b160, L_law_b182, L_law_b195, L_law_b206, L_law_b229, L_law_b244, L_law_b256, c6, c7, ca]
/-- one entry of the log, as append writes it -/
def ent (ob : Rec) (n k key v : Int32) : Rec := sA (sA (sA (sA (sA (sI ob 4 n) 0 n k) 1 n 0) 2 n key) 3 n v) 4 n 0
theorem app_e (ob : Rec) (m n k key v : Int32) (h : gI ob 4 = m) (hn : m + 1 = n) (hb : 0 ≤ n.toInt ∧ n.toInt < 129) : X_append ob k 0 key v = some (n, ent ob n k key v) := by
  unfold X_append
  have q : ∀ A : Option (Int32 × Rec), chk 129 n A = A := fun A => chk_ok hb
  rw [h, hn, q, q, q, q, q]; rfl
theorem lf_e (ob : Rec) (m : Int32) (h : gI ob 4 = m) (h2 : gI ob 2 = 16) (hm : m < 16) (hm' : m < 128) : X_logFull ob = some 0 := by
  unfold X_logFull; rw [h, h2, if_pos hm, if_pos hm']
theorem apE (NF n : Nat) (ob : Rec) (L i : Int32) (h : ¬ i < L) : X_applyToPublisher_l18 NF (n + 1) ob 0 L i = some ob := by
  show X_applyToPublisher_w18 NF _ ob 0 L i = _
  unfold X_applyToPublisher_w18; rw [if_neg h]
theorem ap2 (NF n : Nat) (ob : Rec) (L i key v : Int32) (h : i < L) (h1 : i < 129) (h0 : 0 ≤ i.toInt) (e1 : gA ob 1 i = 0) (e2 : gA ob 2 i = key) (hk : 0 ≤ key.toInt ∧ key.toInt < 32) (e0 : gA ob 0 i = 2) (e3 : gA ob 3 i = v) : X_applyToPublisher_l18 NF (n + 1) ob 0 L i = X_applyToPublisher_l18 NF n (sA (sA ob 7 key 1) 8 key v) 0 L (i + 1) := by
  show X_applyToPublisher_w18 NF _ ob 0 L i = _
  have q : ∀ A : Option Rec, chk 129 i A = A := fun A => chk_ok ⟨h0, lt_i.mp h1⟩
  have q' : ∀ A : Option Rec, chk 32 key A = A := fun A => chk_ok hk
  unfold X_applyToPublisher_w18; rw [if_pos h, if_pos h1, q, q, e1, e2, if_pos rfl, if_neg (by rw [lt_i, t0]; omega), if_pos (by rw [lt_i, t32]; omega), q, e0, if_pos rfl, q', q, q', e3]
theorem ap3 (NF n : Nat) (ob : Rec) (L i key : Int32) (h : i < L) (h1 : i < 129) (h0 : 0 ≤ i.toInt) (e1 : gA ob 1 i = 0) (e2 : gA ob 2 i = key) (hk : 0 ≤ key.toInt ∧ key.toInt < 32) (e0 : gA ob 0 i = 3) : X_applyToPublisher_l18 NF (n + 1) ob 0 L i = X_applyToPublisher_l18 NF n (sA ob 7 key 0) 0 L (i + 1) := by
  show X_applyToPublisher_w18 NF _ ob 0 L i = _
  have q : ∀ A : Option Rec, chk 129 i A = A := fun A => chk_ok ⟨h0, lt_i.mp h1⟩
  have q' : ∀ A : Option Rec, chk 32 key A = A := fun A => chk_ok hk
  unfold X_applyToPublisher_w18; rw [if_pos h, if_pos h1, q, q, e1, e2, if_pos rfl, if_neg (by rw [lt_i, t0]; omega), if_pos (by rw [lt_i, t32]; omega), q, e0, if_neg (by decide), q, if_pos rfl, q']
theorem co_e (ob : Rec) (h1 : gI ob 1 = 2) (h5 : gA ob 5 0 = 1) : X_checkOpenSlot ob 0 = some 0 := by
  unfold X_checkOpenSlot
  rw [vs_in (by rw [h1]; decide) ⟨by decide, by rw [h1]; decide⟩, Option.bind_some, if_neg (by decide), chk_ok (by decide), h5, if_neg (by decide)]
/-- commit, given what apply does -/
theorem com_e (ob q : Rec) (m n : Int32) (h1 : gI ob 1 = 2) (h5 : gA ob 5 0 = 1) (h4 : gI ob 4 = m) (h2 : gI ob 2 = 16) (h6 : gA ob 6 0 = 1) (hn : m + 1 = n) (hm : m < 16) (hm' : m < 128) (hb : 0 ≤ n.toInt ∧ n.toInt < 129) (ha : X_applyToPublisher_l18 60 60 (sA (ent ob n 4 0 0) 4 n 1) 0 n 2 = some q) : X_commit 60 ob 0 = some (n, sA q 5 0 0) := by
  unfold X_commit
  rw [co_e ob h1 h5, Option.bind_some, if_pos rfl, lf_e ob m h4 h2 hm hm', Option.bind_some, if_pos rfl, chk_ok (by decide), app_e ob m n 4 0 0 h4 hn hb, bind2_some, h6, chk_ok hb]
  unfold X_applyToPublisher
  rw [if_neg (by decide)]
  show ((X_applyToPublisher_l18 60 60 (sA (ent ob n 4 0 0) 4 n 1) 0 n 2).bind _) = _
  rw [ha, Option.bind_some, chk_ok (by decide)]
theorem wr_in (ob : Rec) (k key v m n : Int32) (h1 : gI ob 1 = 2) (h5 : gA ob 5 0 = 1) (h0 : (gI ob 0).toInt ≤ 32) (h4 : gI ob 4 = m) (h2 : gI ob 2 = 16) (hn : m + 1 = n) (hm : m < 16) (hm' : m < 128) (hb : 0 ≤ n.toInt ∧ n.toInt < 129) (hk : Key ob key) : X_write ob k 0 key v = some (n, ent ob n k key v) := by
  unfold X_write
  rw [co_e ob h1 h5, Option.bind_some, if_pos rfl, vk_in h0 hk, Option.bind_some, if_neg (by decide), lf_e ob m h4 h2 hm hm', Option.bind_some, if_pos rfl, app_e ob m n k key v h4 hn hb]; rfl
theorem wr_out (ob : Rec) (k key v : Int32) (h1 : gI ob 1 = 2) (h5 : gA ob 5 0 = 1) (hk : ¬ Key ob key) : X_write ob k 0 key v = some (-3, ob) := by
  unfold X_write
  rw [co_e ob h1 h5, Option.bind_some, if_pos rfl, vk_out hk, Option.bind_some, if_pos rfl]
theorem tail_ok (ob q : Rec) (a v c i6 i7 r2 r3 r5 vis : Int32) (hc : X_commit 60 ob 0 = some (r5, q)) (n0 : (gI ob 0).toInt ≤ 32) (n0' : 0 ≤ (gI ob 0).toInt) (g0 : gI q 0 = gI ob 0) (g1 : gI q 1 = 2) (g5 : ∀ j, gA q 5 j = 0) (o7 : ∀ j, gA ob 7 j = 0)
    (hvis : vis = if i6 = 0 then 0 else if i7 = 0 then 1 else if c = a then 0 else 1) (z0 : vis = 0 → ∀ j, gA q 7 j = 0) (z1 : ¬ vis = 0 → (∀ j, gA q 7 j = if j = a then 1 else 0) ∧ gA q 8 a = v ∧ Key ob a ∧ (Key ob c → ¬ c = a))
    (h2 : r2 = if i6 = 0 then -3 else 2) (h3 : r3 = if i7 = 0 then -3 else if i6 = 0 then 2 else 3) (h5 : r5 = (2 + (if i6 = 0 then 0 else 1)) + (if i7 = 0 then 0 else 1)) :
    ((X_pubRow ob a).bind fun r14 => bind2 (X_commit 60 ob 0) fun r16 q17 => (X_pubRow q17 a).bind fun r19 => (X_pubRow q17 c).bind fun r21 => (X_info 60 q17 (6 : Int32)).bind fun r23 => (X_info 60 q17 (1 : Int32)).bind fun r25 =>
      if i6 = (0 : Int32) then L_law_b160 60 q17 a v c i6 i7 1 r2 r3 r14 r16 r19 r21 r23 r25 (-3 : Int32) else L_law_b160 60 q17 a v c i6 i7 1 r2 r3 r14 r16 r19 r21 r23 r25 (2 : Int32)) = some 1 := by
  rw [pub_0 n0 (fun _ => o7 a), Option.bind_some, hc, bind2_some]
  have n1 : (gI q 0).toInt ≤ 32 := by rw [g0]; exact n0
  have pc : X_pubRow q c = some 4294967296 := by
    refine pub_0 n1 (fun hk => ?_)
    by_cases d : vis = 0
    · exact z0 d c
    · obtain ⟨u1, -, -, u4⟩ := z1 d
      have hk' : Key ob c := by unfold Key at hk ⊢; rw [← g0]; exact hk
      rw [u1, if_neg (u4 hk')]
  have pa : X_pubRow q a = some (if vis = 0 then 4294967296 else v.toInt64) := by
    by_cases d : vis = 0
    · rw [if_pos d]; exact pub_0 n1 (fun _ => z0 d a)
    · obtain ⟨u1, u2, u3, -⟩ := z1 d
      have hk' : Key q a := by unfold Key; rw [g0]; exact u3
      rw [if_neg d, pub_1 n1 hk' (by rw [u1, if_pos rfl]; decide), u2]
  have rw6 : X_countPubRows 60 q = some (if vis = 0 then 0 else 1) := by
    by_cases d : vis = 0
    · rw [if_pos d]; exact rows0 60 q n1 (z0 d) 0 40 60 0 (by omega) (by decide) (by rw [g0, t0]; exact n0') (by rw [t0]; omega)
    · obtain ⟨u1, u2, u3, -⟩ := z1 d
      have := rows1 60 q n1 a (by rw [g0]; exact u3.2) u1 40 60 0 0 (by omega) (by decide) (by rw [g0, t0]; exact n0') (by rw [t0]; omega)
      rw [if_pos (by rw [t0]; exact u3.1)] at this
      rw [if_neg d]; exact this
  have i6e : X_info 60 q 6 = some (if vis = 0 then 0 else 1) := by
    unfold X_info; rw [if_neg (by decide), if_neg (by decide), if_neg (by decide), if_neg (by decide), if_neg (by decide), if_neg (by decide), if_pos rfl, rw6]; rfl
  have i1e : X_info 60 q 1 = some 0 := by
    have : X_countOpen 60 q = some 0 := cnt0 60 q (by rw [g1]; decide) g5 0 8 60 0 (by omega) (by decide) (by rw [g1]; decide) (by rw [g1]; decide)
    unfold X_info; rw [if_neg (by decide), if_pos rfl, this]; rfl
  rw [pa, pc, i6e, i1e, Option.bind_some, Option.bind_some, Option.bind_some, Option.bind_some]
  exact fin_ok q a v c i6 i7 r2 r3 r5 _ _ vis hvis h2 h3 h5 rfl rfl
theorem own_b (r : Rec) (n0 : 8 ≤ (gI r 0).toInt ∧ (gI r 0).toInt ≤ 32) (e1 : gI r 1 = 2) (e2 : gI r 2 = 16) (e4 : gI r 4 = 0) (hz : ∀ k i, gA r k i = 0) (a v c i6 i7 : Int32) (h6 : (Key r a ∧ i6 = 1) ∨ (¬ Key r a ∧ i6 = 0)) (h7 : (Key r c ∧ i7 = 1) ∨ (¬ Key r c ∧ i7 = 0)) : L_law_b71 60 r a v c i6 i7 = some 1 := by
  have bg : X_begin r 0 = some (1, sA (sA (ent r 1 1 0 0) 5 0 1) 6 0 1) := by
    unfold X_begin
    rw [vs_in (by rw [e1]; decide) ⟨by decide, by rw [e1]; decide⟩, Option.bind_some, if_neg (by decide), chk_ok (by decide), hz, if_pos rfl, lf_e r 0 e4 e2 (by decide) (by decide), Option.bind_some, if_pos rfl, app_e r 0 1 1 0 0 e4 rfl (by decide), bind2_some, chk_ok (by decide), chk_ok (by decide)]
  generalize hob : sA (sA (ent r 1 1 0 0) 5 0 1) 6 0 1 = ob1 at bg
  have g0 : gI ob1 0 = gI r 0 := by rw [← hob]; rfl
  have g1 : gI ob1 1 = 2 := by rw [← hob]; exact e1
  have g2 : gI ob1 2 = 16 := by rw [← hob]; exact e2
  have g4 : gI ob1 4 = 1 := by rw [← hob]; rfl
  have g5 : ∀ j, gA ob1 5 j = if j = 0 then 1 else 0 := by
    intro j; rw [← hob]; unfold ent; simp [gA_sA, gA_sI, hz]
  have g6 : gA ob1 6 0 = 1 := by rw [← hob]; rfl
  have g7 : ∀ j, gA ob1 7 j = 0 := by intro j; rw [← hob]; unfold ent; simp [gA_sA, gA_sI, hz]
  have kk : ∀ {o : Rec} {k : Int32}, gI o 0 = gI r 0 → (Key o k ↔ Key r k) := by intro o k h; unfold Key; rw [h]
  unfold L_law_b71
  rw [bg, bind2_some]
  unfold X_put X_del
  rcases h6 with ⟨ka, rfl⟩ | ⟨ka, rfl⟩ <;> rcases h7 with ⟨kc, rfl⟩ | ⟨kc, rfl⟩
  · have hb : Key ob1 a := (kk g0).mpr ka
    rw [wr_in ob1 2 a v 1 2 g1 (by rw [g5, if_pos rfl]) (by rw [g0]; exact n0.2) g4 g2 rfl (by decide) (by decide) (by decide) hb, bind2_some, bind2_some]
    rw [wr_in (ent ob1 2 2 a v) 3 c 0 2 3 g1 (by show gA ob1 5 0 = 1; rw [g5, if_pos rfl]) (by show (gI ob1 0).toInt ≤ 32; rw [g0]; exact n0.2) rfl g2 rfl (by decide) (by decide) (by decide) ((kk g0).mpr kc), bind2_some, bind2_some]
    refine tail_ok (ent (ent ob1 2 2 a v) 3 3 c 0) _ a v c 1 1 2 3 4 (if c = a then 0 else 1) (com_e _ (sA (sA (sA (sA (ent (ent (ent ob1 2 2 a v) 3 3 c 0) 4 4 0 0) 4 4 1) 7 a 1) 8 a v) 7 c 0) 3 4 g1 (by show gA ob1 5 0 = 1; rw [g5, if_pos rfl]) rfl g2 g6 rfl (by decide) (by decide) (by decide) ?_) (by show (gI ob1 0).toInt ≤ 32; rw [g0]; exact n0.2) (by show 0 ≤ (gI ob1 0).toInt; rw [g0]; omega) rfl g1 ?_ g7 rfl ?_ ?_ rfl rfl rfl
    · rw [ap2 60 59 _ 4 2 a v (by decide) (by decide) (by decide) rfl rfl (by have := ka.1; have := ka.2; omega) rfl rfl, ap3 60 58 _ 4 (2 + 1) c (by decide) (by decide) (by decide) rfl rfl (by have := kc.1; have := kc.2; omega) rfl, apE 60 57 _ _ _ (by decide)]
    · intro j; unfold ent; simp [gA_sA, gA_sI, g5]
    · intro d j
      have : c = a := by by_cases u : c = a; exact u; rw [if_neg u] at d; exact absurd d (by decide)
      unfold ent; simp [gA_sA, gA_sI, g7, this]
    · intro d
      have u : ¬ c = a := fun u => d (if_pos u)
      refine ⟨fun j => ?_, ?_, (kk (o := ent (ent ob1 2 2 a v) 3 3 c 0) g0).mpr ka, fun _ => u⟩
      · unfold ent; simp only [gA_sA, gA_sI, g7]
        by_cases w : j = a
        · have : ¬ j = c := fun h => u (h.symm.trans w)
          simp [w]; exact fun h => u h.symm
        · by_cases w' : j = c
          · simp [w']; exact u
          · simp [w, w']
      · unfold ent; simp [gA_sA, gA_sI]
  · have hb : Key ob1 a := (kk g0).mpr ka
    rw [wr_in ob1 2 a v 1 2 g1 (by rw [g5, if_pos rfl]) (by rw [g0]; exact n0.2) g4 g2 rfl (by decide) (by decide) (by decide) hb, bind2_some, bind2_some]
    rw [wr_out (ent ob1 2 2 a v) 3 c 0 g1 (by show gA ob1 5 0 = 1; rw [g5, if_pos rfl]) (fun h => kc ((kk g0).mp h)), bind2_some, bind2_some]
    refine tail_ok (ent ob1 2 2 a v) _ a v c 1 0 2 (-3) 3 1 (com_e _ (sA (sA (sA (ent (ent ob1 2 2 a v) 3 4 0 0) 4 3 1) 7 a 1) 8 a v) 2 3 g1 (by show gA ob1 5 0 = 1; rw [g5, if_pos rfl]) rfl g2 g6 rfl (by decide) (by decide) (by decide) ?_) (by show (gI ob1 0).toInt ≤ 32; rw [g0]; exact n0.2) (by show 0 ≤ (gI ob1 0).toInt; rw [g0]; omega) rfl g1 ?_ g7 rfl ?_ ?_ rfl rfl rfl
    · rw [ap2 60 59 _ 3 2 a v (by decide) (by decide) (by decide) rfl rfl (by have := ka.1; have := ka.2; omega) rfl rfl, apE 60 58 _ _ _ (by decide)]
    · intro j; unfold ent; simp [gA_sA, gA_sI, g5]
    · intro d; exact absurd d (by decide)
    · intro d
      refine ⟨fun j => ?_, ?_, (kk (o := ent ob1 2 2 a v) g0).mpr ka, fun h => absurd ((kk (o := ent ob1 2 2 a v) g0).mp h) kc⟩
      · unfold ent; simp only [gA_sA, gA_sI, g7]
        by_cases w : j = a <;> simp [w]
      · unfold ent; simp [gA_sA]
  · have hb : ¬ Key ob1 a := fun h => ka ((kk g0).mp h)
    rw [wr_out ob1 2 a v g1 (by rw [g5, if_pos rfl]) hb, bind2_some, bind2_some]
    rw [wr_in ob1 3 c 0 1 2 g1 (by rw [g5, if_pos rfl]) (by rw [g0]; exact n0.2) g4 g2 rfl (by decide) (by decide) (by decide) ((kk g0).mpr kc), bind2_some, bind2_some]
    refine tail_ok (ent ob1 2 3 c 0) _ a v c 0 1 (-3) 2 3 0 (com_e _ (sA (sA (ent (ent ob1 2 3 c 0) 3 4 0 0) 4 3 1) 7 c 0) 2 3 g1 (by show gA ob1 5 0 = 1; rw [g5, if_pos rfl]) rfl g2 g6 rfl (by decide) (by decide) (by decide) ?_) (by show (gI ob1 0).toInt ≤ 32; rw [g0]; exact n0.2) (by show 0 ≤ (gI ob1 0).toInt; rw [g0]; omega) rfl g1 ?_ g7 rfl ?_ ?_ rfl rfl rfl
    · rw [ap3 60 59 _ 3 2 c (by decide) (by decide) (by decide) rfl rfl (by have := kc.1; have := kc.2; omega) rfl, apE 60 58 _ _ _ (by decide)]
    · intro j; unfold ent; simp [gA_sA, gA_sI, g5]
    · intro d j; unfold ent; simp [gA_sA, gA_sI, g7]
    · intro d; exact absurd rfl d
  · have hb : ¬ Key ob1 a := fun h => ka ((kk g0).mp h)
    rw [wr_out ob1 2 a v g1 (by rw [g5, if_pos rfl]) hb, bind2_some, bind2_some]
    rw [wr_out ob1 3 c 0 g1 (by rw [g5, if_pos rfl]) (fun h => kc ((kk g0).mp h)), bind2_some, bind2_some]
    refine tail_ok ob1 _ a v c 0 0 (-3) (-3) 2 0 (com_e _ (sA (ent ob1 2 4 0 0) 4 2 1) 1 2 g1 (by rw [g5, if_pos rfl]) g4 g2 g6 rfl (by decide) (by decide) (by decide) ?_) (by rw [g0]; exact n0.2) (by rw [g0]; omega) rfl g1 ?_ g7 rfl ?_ ?_ rfl rfl rfl
    · rw [apE 60 59 _ _ _ (by decide)]
    · intro j; unfold ent; simp [gA_sA, gA_sI, g5]
    · intro d j; unfold ent; simp [gA_sA, gA_sI, g7]
    · intro d; exact absurd rfl d
theorem own_l (r : Rec) (n0 : 8 ≤ (gI r 0).toInt ∧ (gI r 0).toInt ≤ 32) (e1 : gI r 1 = 2) (e2 : gI r 2 = 16) (e4 : gI r 4 = 0) (hz : ∀ k i, gA r k i = 0) (a v c : Int32) : L_law_b37 60 r a v c (gI r 0) = some 1 := by
  have B : ∀ (i n : Int32) (f : Int32 → Option Int32), (if i < 0 then f 0 else if i < n then f 1 else f 0) = if 0 ≤ i.toInt ∧ i.toInt < n.toInt then f 1 else f 0 := by
    intro i n f
    by_cases c : i < 0
    · rw [if_pos c, if_neg (fun h => by rw [lt_i, t0] at c; omega)]
    · by_cases c' : i < n
      · rw [if_neg c, if_pos c', if_pos ⟨by rw [lt_i, t0] at c; omega, lt_i.mp c'⟩]
      · rw [if_neg c, if_neg c', if_neg (fun h => c' (lt_i.mpr h.2))]
  have h54 : ∀ i6 : Int32, (Key r a ∧ i6 = 1) ∨ (¬ Key r a ∧ i6 = 0) → L_law_b54 60 r a v c (gI r 0) i6 = some 1 := by
    intro i6 h6
    unfold L_law_b54
    rw [B c (gI r 0) (fun t => L_law_b71 60 r a v c i6 t)]
    by_cases hk : Key r c
    · rw [if_pos hk]; exact own_b r n0 e1 e2 e4 hz a v c i6 1 h6 (Or.inl ⟨hk, rfl⟩)
    · rw [if_neg hk]; exact own_b r n0 e1 e2 e4 hz a v c i6 0 h6 (Or.inr ⟨hk, rfl⟩)
  unfold L_law_b37
  rw [B a (gI r 0) (fun t => L_law_b54 60 r a v c (gI r 0) t)]
  by_cases hk : Key r a
  · rw [if_pos hk]; exact h54 1 (Or.inl ⟨hk, rfl⟩)
  · rw [if_neg hk]; exact h54 0 (Or.inr ⟨hk, rfl⟩)
theorem owed : ∀ i0 i1 i2 i3 : Int32, ∃ NF : Nat, L_law NF i0 i1 i2 i3 = some 1 := by
  intro i0 i1 i2 i3
  refine ⟨60, ?_⟩
  obtain ⟨r, e, f0, f1, f2, -, f4, fz⟩ := init_e i0 2 16 2
  have b0 := clp_b i0 8 32 (by decide)
  rw [t8, t32] at b0
  have h := own_l r (by rw [f0]; exact b0) (by rw [f1]; decide) (by rw [f2]; decide) (f4 4 (by omega)) fz i1 i2 i3
  rw [f0] at h
  unfold L_law
  rw [e, Option.bind_some]
  unfold clp at h
  by_cases c : i0 < 8
  · rw [if_pos c] at h ⊢; exact h
  · rw [if_neg c] at h ⊢
    by_cases c' : 32 < i0
    · rw [if_pos c'] at h ⊢; exact h
    · rw [if_neg c'] at h ⊢; exact h
-- owed : ∀ i0 i1 i2 i3 : Int32, ∃ NF : Nat, L_law NF i0 i1 i2 i3 = some 1
--COMES--
set_option maxRecDepth 65536 in
set_option maxHeartbeats 4000000 in
theorem comes_1 {Post : Tables → Env → Array Value → State → Outcome → State → Prop} (hpost : ∀ tb e args s v u, (limb_1_1.after args s (.returned v) u = true ∧ limb_1_2.after args s (.returned v) u = true ∧ True) → FrameEnd s (.returned v) u (Jvm.fieldLocs frame_1_writes args s ++ Jvm.arrayLocs frame_1_arrays args s ++ Jvm.staticLocs frame_1_statics s) 48 2880 → Post tb e args s (.returned v) u) :
    ArmFor flags0 classFile x code maxLocals ret World_1 tables_1 room_1 Calls_1 rest_1 Pre_1 Post := by
  intro l hfl _ _ p e ha hc hk s m args below hf hA hF happ hP
  obtain ⟨hcalls, hrest, hpre⟩ := hP
  obtain ⟨-, -, -, hnamed, -, -, -, hat⟩ := (Spec.applies_iff hf).mp happ
  obtain ⟨hg, hn⟩ := and_e (Cond.before_iff.mp (show (Jvm.Cond.and given_1 narrow_1).before args s = true from hpre))
  obtain ⟨hcnt, hg⟩ := and_e hg
  obtain ⟨w0, w1, w2, w3, rfl⟩ : ∃ w0 w1 w2 w3 : Value, args = #[w0, w1, w2, w3] := by
    have hs : args.size = 4 := by simpa [Cond.value, given_1] using hcnt
    obtain ⟨L⟩ := args
    match L, hs with
    | [w0, w1, w2, w3], _ => exact ⟨w0, w1, w2, w3, rfl⟩
  have hw := fun d (hd : d ∈ tables_1) => atoms_spec (ws := Jvm.Cond.code x code maxLocals ret :: tables_1) hat d (List.mem_cons_of_mem _ hd)
  have hfit : Fit s := fun {y c} hc i hi => by
    obtain ⟨ha, rfl⟩ := Array.getElem?_eq_some_iff.mp hc
    have q := List.all_eq_true.mp ((Array.all_eq_true_iff_forall_mem.mp hF) _ (Array.getElem_mem ha)) i (List.mem_range.mpr hi)
    simpa [Array.getElem?_eq_getElem hi] using q
  obtain ⟨h0, hg⟩ := and_e hg
  obtain ⟨i0, e0⟩ := is_v h0
  obtain rfl : w0 = (.int i0) := Option.some.inj e0
  obtain ⟨h1, hg⟩ := and_e hg
  obtain ⟨i1, e1⟩ := is_v h1
  obtain rfl : w1 = (.int i1) := Option.some.inj e1
  obtain ⟨h2, hg⟩ := and_e hg
  obtain ⟨i2, e2⟩ := is_v h2
  obtain rfl : w2 = (.int i2) := Option.some.inj e2
  have h3 := hg
  obtain ⟨i3, e3⟩ := is_v h3
  obtain rfl : w3 = (.int i3) := Option.some.inj e3
  obtain ⟨NF, hlaw⟩ := owed i0 i1 i2 i3
  have hp := L_law_pay (C := (l, s, s.heap.size, #[.int i0, .int i1, .int i2, .int i3])) hlaw hw s.heap (Rep.start s) tables_1
  obtain ⟨n, o, h1, h2, h3, v, L, rfl, ⟨N, G', -, rfl⟩, hq⟩ := hp p e ha hc hk s m _ below hf ((Spec.applies_iff_loose hf).mp happ).1 ⟨rfl, State.Warmed39.refl s, rfl⟩ trivial
  refine ⟨n, _, h1, h2, h3, hpost _ _ _ _ _ _ ⟨Cond.after_iff.mpr rfl, Cond.after_iff.mpr (eq_i res_at (Term.int_eval (1)) rfl), trivial⟩ ⟨hq.1, hq.2.1, (hq.2.2.sift fun y hy => Or.inr (N y hy)).mono (by decide) (by decide)⟩⟩
theorem main_1_1 : Claimed_1_1 := comes_1 fun _ _ _ _ _ _ h hF => ⟨h.1, hF⟩
theorem main_1_2 : Claimed_1_2 := comes_1 fun _ _ _ _ _ _ h hF => ⟨h.2.1, hF⟩
end Jvm.Pilot.@@N@@
namespace Jvm.Pilot.@@N@@
open Jvm Jvm.ClassFile Sem Op Lib Jvm.Free Jvm.Stand Jvm.Pilot.@@N@@.Jvm.D
/-! MADE BY PROGRAM (witnessworld.py) out of the Statement's table words and the real class files: 11 classes; the members and pool entries that the words name. The judged class is class 1, her method 1. -/
namespace start1
open Jvm.ClassFile
def u (s : String) : CpInfo := .utf8 (stringToUtf16 s)
/-- a pool by its gaps: so many unusable entries, then the entry; so many at the end -/
def gap : Nat → List CpInfo → List CpInfo
  | 0, r => r
  | n + 1, r => .unusable :: gap n r
def poolList (es : List (Nat × CpInfo)) (last : Nat) : List CpInfo := es.foldr (fun e r => gap e.1 (e.2 :: r)) (gap last [])
def pool (es : List (Nat × CpInfo)) (last : Nat) : Array CpInfo := ⟨poolList es last⟩
def fileOf (pool : Array CpInfo) (this : Nat) (attrs : Array Attribute := #[]) (ms : Array MethodInfo := #[]) (fl : Nat := 33) (sup : Nat := 0) (ifs : Array Nat := #[]) (fds : Array FieldInfo := #[]) : ClassFile where
  minorVersion := 0
  majorVersion := 65
  constantPool := pool
  accessFlags := fl
  thisClass := this
  superClass := sup
  interfaces := ifs
  fields := fds
  methods := ms
  attributes := attrs
def plain (name : String) (sup : Option ClassId) : Class where
  name := name
  kind := .ordinary
  loader := none
  accessFlags := 33
  super := sup
  interfaces := #[]
  cf := none
  fields := #[]
  methods := #[]
  instanceTypes := #[]
  staticTypes := #[]
  resolved := #[]
  callSites := []
  init := .initialized
  statics := none
  mirror := none

def pool0 : Array CpInfo := pool [(5, u "<init>"), (0, u "()V"), (1, .class_ 10), (1, u "java/lang/Object")] 113

def k0c0 : Code := { maxStack := 0, maxLocals := 1, code := object_method_1_code, exceptionTable := #[], attributes := #[] }
def k0m0 : Method := { name := "<init>", desc := "()V", sig := { parameters := [], returnType := none }, accessFlags := 1, code := some k0c0 }
/-- java/lang/Object -/
def k0 : Class := { plain "java/lang/Object" none with
  accessFlags := 33
  interfaces := #[]
  cf := some (fileOf pool0 8 #[] #[{ accessFlags := 1, nameIndex := 5, descriptorIndex := 6, attributes := #[] }] 33 0 #[] #[])
  fields := #[]
  methods := #[k0m0]
  instanceTypes := #[]
  staticTypes := #[]
  resolved := Array.replicate 124 none
  statics := none }

def pool1 : Array CpInfo := pool [(2, .class_ 4), (1, u "java/lang/Object"), (0, u "<init>"), (0, u "()V"), (0, .class_ 8), (0, u "LogicalReplicator"), (0, .methodref 7 10), (0, .nameAndType 5 11), (0, u "(IIII)V"), (0, .methodref 7 13), (0, .nameAndType 14 15), (0, u "begin"), (0, u "(I)I"), (0, .methodref 7 17), (0, .nameAndType 18 19), (0, u "put"), (0, u "(III)I"), (0, .methodref 7 21), (0, .nameAndType 22 23), (0, u "del"), (0, u "(II)I"), (0, .methodref 7 25), (0, .nameAndType 26 27), (0, u "pubRow"), (0, u "(I)J"), (0, .methodref 7 29), (0, .nameAndType 30 15), (0, u "commit"), (0, .methodref 7 32), (0, .nameAndType 33 15), (0, u "info"), (0, .long 4294967296), (1, .class_ 37), (0, u "LogicalReplicatorL2"), (2, u "law"), (0, u "(IIII)Z")] 3

def k1m0 : Method := { name := "<init>", desc := "()V", sig := { parameters := [], returnType := none }, accessFlags := 1, code := none }
def k1c1 : Code := { maxStack := 6, maxLocals := 27, code := code, exceptionTable := #[], attributes := #[] }
def k1m1 : Method := { name := "law", desc := "(IIII)Z", sig := { parameters := [.int, .int, .int, .int], returnType := some .boolean }, accessFlags := 9, code := some k1c1 }
/-- LogicalReplicatorL2 -/
def k1 : Class := { plain "LogicalReplicatorL2" (some 0) with
  accessFlags := 33
  interfaces := #[]
  cf := some (fileOf pool1 36 #[] #[{ accessFlags := 1, nameIndex := 5, descriptorIndex := 6, attributes := #[] }, { accessFlags := 9, nameIndex := 40, descriptorIndex := 41, attributes := #[] }] 33 2 #[] #[])
  fields := #[]
  methods := #[k1m0, k1m1]
  instanceTypes := #[]
  staticTypes := #[]
  resolved := Array.replicate 45 none
  statics := none }

def pool2 : Array CpInfo := pool [(1, .methodref 2 3), (0, .class_ 4), (0, .nameAndType 5 6), (0, u "java/lang/Object"), (0, u "<init>"), (0, u "()V"), (0, .fieldref 8 9), (0, .class_ 10), (0, .nameAndType 11 12), (0, u "LogicalReplicator"), (0, u "recKind"), (0, u "[I"), (0, .fieldref 8 14), (0, .nameAndType 15 12), (0, u "recSlot"), (0, .fieldref 8 17), (0, .nameAndType 18 12), (0, u "recKey"), (0, .fieldref 8 20), (0, .nameAndType 21 12), (0, u "recVal"), (0, .fieldref 8 23), (0, .nameAndType 24 12), (0, u "recBegin"), (0, .fieldref 8 26), (0, .nameAndType 27 28), (0, u "slotOpen"), (0, u "[Z"), (0, .fieldref 8 30), (0, .nameAndType 31 12), (0, u "slotBegin"), (0, .fieldref 8 33), (0, .nameAndType 34 28), (0, u "pubHas"), (0, .fieldref 8 36), (0, .nameAndType 37 12), (0, u "pubVal"), (0, .fieldref 8 39), (0, .nameAndType 40 28), (0, u "subHas"), (0, .fieldref 8 42), (0, .nameAndType 43 12), (0, u "subVal"), (0, .fieldref 8 45), (0, .nameAndType 46 12), (0, u "pendKind"), (0, .fieldref 8 48), (0, .nameAndType 49 12), (0, u "pendVal"), (0, .fieldref 8 51), (0, .nameAndType 52 12), (0, u "qKind"), (0, .fieldref 8 54), (0, .nameAndType 55 12), (0, u "qKey"), (0, .fieldref 8 57), (0, .nameAndType 58 12), (0, u "qVal"), (0, .fieldref 8 60), (0, .nameAndType 61 12), (0, u "qPos"), (0, .methodref 8 63), (0, .nameAndType 64 65), (0, u "clamp"), (0, u "(III)I"), (0, .fieldref 8 67), (0, .nameAndType 68 69), (0, u "nKeys"), (0, u "I"), (0, .fieldref 8 71), (0, .nameAndType 72 69), (0, u "nSlots"), (0, .fieldref 8 74), (0, .nameAndType 75 69), (0, u "logCap"), (0, .fieldref 8 77), (0, .nameAndType 78 69), (0, u "memCap"), (0, .fieldref 8 80), (0, .nameAndType 81 69), (0, u "length"), (0, .fieldref 8 83), (0, .nameAndType 84 69), (0, u "emittedPos"), (0, .fieldref 8 86), (0, .nameAndType 87 69), (0, u "appliedPos"), (0, .fieldref 8 89), (0, .nameAndType 90 69), (0, u "confirmedPos"), (0, .fieldref 8 92), (0, .nameAndType 93 69), (0, u "qHead"), (0, .fieldref 8 95), (0, .nameAndType 96 69), (0, u "qCount"), (0, .methodref 8 98), (0, .nameAndType 99 100), (0, u "validSlot"), (0, u "(I)Z"), (0, .methodref 8 102), (0, .nameAndType 103 104), (0, u "logFull"), (0, u "()Z"), (0, .methodref 8 106), (0, .nameAndType 107 108), (0, u "append"), (0, u "(IIII)I"), (0, .methodref 8 110), (0, .nameAndType 111 108), (0, u "write"), (0, .methodref 8 113), (0, .nameAndType 114 115), (0, u "checkOpenSlot"), (0, u "(I)I"), (0, .methodref 8 117), (0, .nameAndType 118 100), (0, u "validKey"), (0, .methodref 8 120), (0, .nameAndType 121 122), (0, u "applyToPublisher"), (0, u "(III)V"), (10, u "(IIII)V"), (12, .long 4294967296), (6, .methodref 8 154), (0, .nameAndType 155 156), (0, u "countOpen"), (0, u "()I"), (0, .methodref 8 158), (0, .nameAndType 159 156), (0, u "countPubRows"), (3, u "OK"), (2, u "ERR_SLOT"), (1, u "ERR_STATE"), (1, u "ERR_KEY"), (1, u "ERR_FULL"), (1, u "REC_BEGIN"), (1, u "REC_PUT"), (1, u "REC_DEL"), (1, u "REC_COMMIT"), (1, u "REC_ABORT"), (1, u "ABSENT"), (0, u "J"), (0, u "DELETED"), (0, u "NO_CHANGE"), (0, u "INFO_LOG_LENGTH"), (0, u "INFO_OPEN"), (0, u "INFO_EMITTED"), (0, u "INFO_QUEUED"), (0, u "INFO_APPLIED"), (0, u "INFO_CONFIRMED"), (0, u "INFO_PUB_ROWS"), (1, u "INFO_SUB_ROWS"), (1, u "PEND_NONE"), (0, u "PEND_PUT"), (0, u "PEND_DEL"), (0, u "LOG_SLOTS"), (1, u "QUEUE_CAP"), (1, u "MAX_KEYS"), (1, u "MAX_SLOTS"), (4, u "begin"), (0, u "put"), (0, u "del"), (0, u "(II)I"), (0, u "commit"), (6, u "pubRow"), (0, u "(I)J"), (3, u "info")] 2

def k2c0 : Code := { maxStack := 5, maxLocals := 5, code := prog_1_method_1_code, exceptionTable := #[], attributes := #[] }
def k2m0 : Method := { name := "<init>", desc := "(IIII)V", sig := { parameters := [.int, .int, .int, .int], returnType := none }, accessFlags := 1, code := some k2c0 }
def k2c1 : Code := { maxStack := 2, maxLocals := 4, code := prog_1_method_2_code, exceptionTable := #[], attributes := #[] }
def k2m1 : Method := { name := "clamp", desc := "(III)I", sig := { parameters := [.int, .int, .int], returnType := some .int }, accessFlags := 2, code := some k2c1 }
def k2c2 : Code := { maxStack := 2, maxLocals := 2, code := prog_1_method_3_code, exceptionTable := #[], attributes := #[] }
def k2m2 : Method := { name := "validSlot", desc := "(I)Z", sig := { parameters := [.int], returnType := some .boolean }, accessFlags := 2, code := some k2c2 }
def k2c3 : Code := { maxStack := 2, maxLocals := 2, code := prog_1_method_4_code, exceptionTable := #[], attributes := #[] }
def k2m3 : Method := { name := "validKey", desc := "(I)Z", sig := { parameters := [.int], returnType := some .boolean }, accessFlags := 2, code := some k2c3 }
def k2c4 : Code := { maxStack := 2, maxLocals := 1, code := prog_1_method_5_code, exceptionTable := #[], attributes := #[] }
def k2m4 : Method := { name := "logFull", desc := "()Z", sig := { parameters := [], returnType := some .boolean }, accessFlags := 2, code := some k2c4 }
def k2c5 : Code := { maxStack := 2, maxLocals := 2, code := prog_1_method_6_code, exceptionTable := #[], attributes := #[] }
def k2m5 : Method := { name := "checkOpenSlot", desc := "(I)I", sig := { parameters := [.int], returnType := some .int }, accessFlags := 2, code := some k2c5 }
def k2c6 : Code := { maxStack := 3, maxLocals := 5, code := prog_1_method_7_code, exceptionTable := #[], attributes := #[] }
def k2m6 : Method := { name := "append", desc := "(IIII)I", sig := { parameters := [.int, .int, .int, .int], returnType := some .int }, accessFlags := 2, code := some k2c6 }
def k2c7 : Code := { maxStack := 5, maxLocals := 3, code := prog_1_method_8_code, exceptionTable := #[], attributes := #[] }
def k2m7 : Method := { name := "begin", desc := "(I)I", sig := { parameters := [.int], returnType := some .int }, accessFlags := 1, code := some k2c7 }
def k2c8 : Code := { maxStack := 5, maxLocals := 4, code := prog_1_method_9_code, exceptionTable := #[], attributes := #[] }
def k2m8 : Method := { name := "put", desc := "(III)I", sig := { parameters := [.int, .int, .int], returnType := some .int }, accessFlags := 1, code := some k2c8 }
def k2c9 : Code := { maxStack := 5, maxLocals := 3, code := prog_1_method_10_code, exceptionTable := #[], attributes := #[] }
def k2m9 : Method := { name := "del", desc := "(II)I", sig := { parameters := [.int, .int], returnType := some .int }, accessFlags := 1, code := some k2c9 }
def k2c10 : Code := { maxStack := 5, maxLocals := 6, code := prog_1_method_11_code, exceptionTable := #[], attributes := #[] }
def k2m10 : Method := { name := "write", desc := "(IIII)I", sig := { parameters := [.int, .int, .int, .int], returnType := some .int }, accessFlags := 2, code := some k2c10 }
def k2c11 : Code := { maxStack := 5, maxLocals := 5, code := prog_1_method_12_code, exceptionTable := #[], attributes := #[] }
def k2m11 : Method := { name := "commit", desc := "(I)I", sig := { parameters := [.int], returnType := some .int }, accessFlags := 1, code := some k2c11 }
def k2c12 : Code := { maxStack := 4, maxLocals := 7, code := prog_1_method_13_code, exceptionTable := #[], attributes := #[] }
def k2m12 : Method := { name := "applyToPublisher", desc := "(III)V", sig := { parameters := [.int, .int, .int], returnType := none }, accessFlags := 2, code := some k2c12 }
def k2c13 : Code := { maxStack := 2, maxLocals := 2, code := prog_1_method_27_code, exceptionTable := #[], attributes := #[] }
def k2m13 : Method := { name := "pubRow", desc := "(I)J", sig := { parameters := [.int], returnType := some .long }, accessFlags := 1, code := some k2c13 }
def k2c14 : Code := { maxStack := 1, maxLocals := 2, code := prog_1_method_31_code, exceptionTable := #[], attributes := #[] }
def k2m14 : Method := { name := "info", desc := "(I)I", sig := { parameters := [.int], returnType := some .int }, accessFlags := 1, code := some k2c14 }
def k2c15 : Code := { maxStack := 2, maxLocals := 3, code := prog_1_method_32_code, exceptionTable := #[], attributes := #[] }
def k2m15 : Method := { name := "countOpen", desc := "()I", sig := { parameters := [], returnType := some .int }, accessFlags := 2, code := some k2c15 }
def k2c16 : Code := { maxStack := 2, maxLocals := 3, code := prog_1_method_33_code, exceptionTable := #[], attributes := #[] }
def k2m16 : Method := { name := "countPubRows", desc := "()I", sig := { parameters := [], returnType := some .int }, accessFlags := 2, code := some k2c16 }
/-- LogicalReplicator -/
def k2 : Class := { plain "LogicalReplicator" (some 0) with
  accessFlags := 49
  interfaces := #[]
  cf := some (fileOf pool2 8 #[] #[{ accessFlags := 1, nameIndex := 5, descriptorIndex := 133, attributes := #[] }, { accessFlags := 2, nameIndex := 64, descriptorIndex := 65, attributes := #[] }, { accessFlags := 2, nameIndex := 99, descriptorIndex := 100, attributes := #[] }, { accessFlags := 2, nameIndex := 118, descriptorIndex := 100, attributes := #[] }, { accessFlags := 2, nameIndex := 103, descriptorIndex := 104, attributes := #[] }, { accessFlags := 2, nameIndex := 114, descriptorIndex := 115, attributes := #[] }, { accessFlags := 2, nameIndex := 107, descriptorIndex := 108, attributes := #[] }, { accessFlags := 1, nameIndex := 212, descriptorIndex := 115, attributes := #[] }, { accessFlags := 1, nameIndex := 213, descriptorIndex := 65, attributes := #[] }, { accessFlags := 1, nameIndex := 214, descriptorIndex := 215, attributes := #[] }, { accessFlags := 2, nameIndex := 111, descriptorIndex := 108, attributes := #[] }, { accessFlags := 1, nameIndex := 216, descriptorIndex := 115, attributes := #[] }, { accessFlags := 2, nameIndex := 121, descriptorIndex := 122, attributes := #[] }, { accessFlags := 1, nameIndex := 223, descriptorIndex := 224, attributes := #[] }, { accessFlags := 1, nameIndex := 228, descriptorIndex := 115, attributes := #[] }, { accessFlags := 2, nameIndex := 155, descriptorIndex := 156, attributes := #[] }, { accessFlags := 2, nameIndex := 159, descriptorIndex := 156, attributes := #[] }] 49 2 #[] #[{ accessFlags := 25, nameIndex := 163, descriptorIndex := 69, attributes := #[] }, { accessFlags := 25, nameIndex := 166, descriptorIndex := 69, attributes := #[] }, { accessFlags := 25, nameIndex := 168, descriptorIndex := 69, attributes := #[] }, { accessFlags := 25, nameIndex := 170, descriptorIndex := 69, attributes := #[] }, { accessFlags := 25, nameIndex := 172, descriptorIndex := 69, attributes := #[] }, { accessFlags := 25, nameIndex := 174, descriptorIndex := 69, attributes := #[] }, { accessFlags := 25, nameIndex := 176, descriptorIndex := 69, attributes := #[] }, { accessFlags := 25, nameIndex := 178, descriptorIndex := 69, attributes := #[] }, { accessFlags := 25, nameIndex := 180, descriptorIndex := 69, attributes := #[] }, { accessFlags := 25, nameIndex := 182, descriptorIndex := 69, attributes := #[] }, { accessFlags := 25, nameIndex := 184, descriptorIndex := 185, attributes := #[] }, { accessFlags := 25, nameIndex := 186, descriptorIndex := 185, attributes := #[] }, { accessFlags := 25, nameIndex := 187, descriptorIndex := 185, attributes := #[] }, { accessFlags := 25, nameIndex := 188, descriptorIndex := 69, attributes := #[] }, { accessFlags := 25, nameIndex := 189, descriptorIndex := 69, attributes := #[] }, { accessFlags := 25, nameIndex := 190, descriptorIndex := 69, attributes := #[] }, { accessFlags := 25, nameIndex := 191, descriptorIndex := 69, attributes := #[] }, { accessFlags := 25, nameIndex := 192, descriptorIndex := 69, attributes := #[] }, { accessFlags := 25, nameIndex := 193, descriptorIndex := 69, attributes := #[] }, { accessFlags := 25, nameIndex := 194, descriptorIndex := 69, attributes := #[] }, { accessFlags := 25, nameIndex := 196, descriptorIndex := 69, attributes := #[] }, { accessFlags := 26, nameIndex := 198, descriptorIndex := 69, attributes := #[] }, { accessFlags := 26, nameIndex := 199, descriptorIndex := 69, attributes := #[] }, { accessFlags := 26, nameIndex := 200, descriptorIndex := 69, attributes := #[] }, { accessFlags := 26, nameIndex := 201, descriptorIndex := 69, attributes := #[] }, { accessFlags := 26, nameIndex := 203, descriptorIndex := 69, attributes := #[] }, { accessFlags := 26, nameIndex := 205, descriptorIndex := 69, attributes := #[] }, { accessFlags := 26, nameIndex := 207, descriptorIndex := 69, attributes := #[] }, { accessFlags := 2, nameIndex := 68, descriptorIndex := 69, attributes := #[] }, { accessFlags := 2, nameIndex := 72, descriptorIndex := 69, attributes := #[] }, { accessFlags := 2, nameIndex := 75, descriptorIndex := 69, attributes := #[] }, { accessFlags := 2, nameIndex := 78, descriptorIndex := 69, attributes := #[] }, { accessFlags := 2, nameIndex := 81, descriptorIndex := 69, attributes := #[] }, { accessFlags := 2, nameIndex := 11, descriptorIndex := 12, attributes := #[] }, { accessFlags := 2, nameIndex := 15, descriptorIndex := 12, attributes := #[] }, { accessFlags := 2, nameIndex := 18, descriptorIndex := 12, attributes := #[] }, { accessFlags := 2, nameIndex := 21, descriptorIndex := 12, attributes := #[] }, { accessFlags := 2, nameIndex := 24, descriptorIndex := 12, attributes := #[] }, { accessFlags := 2, nameIndex := 27, descriptorIndex := 28, attributes := #[] }, { accessFlags := 2, nameIndex := 31, descriptorIndex := 12, attributes := #[] }, { accessFlags := 2, nameIndex := 34, descriptorIndex := 28, attributes := #[] }, { accessFlags := 2, nameIndex := 37, descriptorIndex := 12, attributes := #[] }, { accessFlags := 2, nameIndex := 40, descriptorIndex := 28, attributes := #[] }, { accessFlags := 2, nameIndex := 43, descriptorIndex := 12, attributes := #[] }, { accessFlags := 2, nameIndex := 46, descriptorIndex := 12, attributes := #[] }, { accessFlags := 2, nameIndex := 49, descriptorIndex := 12, attributes := #[] }, { accessFlags := 2, nameIndex := 84, descriptorIndex := 69, attributes := #[] }, { accessFlags := 2, nameIndex := 87, descriptorIndex := 69, attributes := #[] }, { accessFlags := 2, nameIndex := 90, descriptorIndex := 69, attributes := #[] }, { accessFlags := 2, nameIndex := 52, descriptorIndex := 12, attributes := #[] }, { accessFlags := 2, nameIndex := 55, descriptorIndex := 12, attributes := #[] }, { accessFlags := 2, nameIndex := 58, descriptorIndex := 12, attributes := #[] }, { accessFlags := 2, nameIndex := 61, descriptorIndex := 12, attributes := #[] }, { accessFlags := 2, nameIndex := 93, descriptorIndex := 69, attributes := #[] }, { accessFlags := 2, nameIndex := 96, descriptorIndex := 69, attributes := #[] }])
  fields := #[{ name := "OK", type := .int, accessFlags := 25, slot := 0, constantValue := 0 }, { name := "ERR_SLOT", type := .int, accessFlags := 25, slot := 1, constantValue := 0 }, { name := "ERR_STATE", type := .int, accessFlags := 25, slot := 2, constantValue := 0 }, { name := "ERR_KEY", type := .int, accessFlags := 25, slot := 3, constantValue := 0 }, { name := "ERR_FULL", type := .int, accessFlags := 25, slot := 4, constantValue := 0 }, { name := "REC_BEGIN", type := .int, accessFlags := 25, slot := 5, constantValue := 0 }, { name := "REC_PUT", type := .int, accessFlags := 25, slot := 6, constantValue := 0 }, { name := "REC_DEL", type := .int, accessFlags := 25, slot := 7, constantValue := 0 }, { name := "REC_COMMIT", type := .int, accessFlags := 25, slot := 8, constantValue := 0 }, { name := "REC_ABORT", type := .int, accessFlags := 25, slot := 9, constantValue := 0 }, { name := "ABSENT", type := .long, accessFlags := 25, slot := 10, constantValue := 0 }, { name := "DELETED", type := .long, accessFlags := 25, slot := 11, constantValue := 0 }, { name := "NO_CHANGE", type := .long, accessFlags := 25, slot := 12, constantValue := 0 }, { name := "INFO_LOG_LENGTH", type := .int, accessFlags := 25, slot := 13, constantValue := 0 }, { name := "INFO_OPEN", type := .int, accessFlags := 25, slot := 14, constantValue := 0 }, { name := "INFO_EMITTED", type := .int, accessFlags := 25, slot := 15, constantValue := 0 }, { name := "INFO_QUEUED", type := .int, accessFlags := 25, slot := 16, constantValue := 0 }, { name := "INFO_APPLIED", type := .int, accessFlags := 25, slot := 17, constantValue := 0 }, { name := "INFO_CONFIRMED", type := .int, accessFlags := 25, slot := 18, constantValue := 0 }, { name := "INFO_PUB_ROWS", type := .int, accessFlags := 25, slot := 19, constantValue := 0 }, { name := "INFO_SUB_ROWS", type := .int, accessFlags := 25, slot := 20, constantValue := 0 }, { name := "PEND_NONE", type := .int, accessFlags := 26, slot := 21, constantValue := 0 }, { name := "PEND_PUT", type := .int, accessFlags := 26, slot := 22, constantValue := 0 }, { name := "PEND_DEL", type := .int, accessFlags := 26, slot := 23, constantValue := 0 }, { name := "LOG_SLOTS", type := .int, accessFlags := 26, slot := 24, constantValue := 0 }, { name := "QUEUE_CAP", type := .int, accessFlags := 26, slot := 25, constantValue := 0 }, { name := "MAX_KEYS", type := .int, accessFlags := 26, slot := 26, constantValue := 0 }, { name := "MAX_SLOTS", type := .int, accessFlags := 26, slot := 27, constantValue := 0 }, { name := "nKeys", type := .int, accessFlags := 2, slot := 0, constantValue := 0 }, { name := "nSlots", type := .int, accessFlags := 2, slot := 1, constantValue := 0 }, { name := "logCap", type := .int, accessFlags := 2, slot := 2, constantValue := 0 }, { name := "memCap", type := .int, accessFlags := 2, slot := 3, constantValue := 0 }, { name := "length", type := .int, accessFlags := 2, slot := 4, constantValue := 0 }, { name := "recKind", type := (.array .int), accessFlags := 2, slot := 5, constantValue := 0 }, { name := "recSlot", type := (.array .int), accessFlags := 2, slot := 6, constantValue := 0 }, { name := "recKey", type := (.array .int), accessFlags := 2, slot := 7, constantValue := 0 }, { name := "recVal", type := (.array .int), accessFlags := 2, slot := 8, constantValue := 0 }, { name := "recBegin", type := (.array .int), accessFlags := 2, slot := 9, constantValue := 0 }, { name := "slotOpen", type := (.array .boolean), accessFlags := 2, slot := 10, constantValue := 0 }, { name := "slotBegin", type := (.array .int), accessFlags := 2, slot := 11, constantValue := 0 }, { name := "pubHas", type := (.array .boolean), accessFlags := 2, slot := 12, constantValue := 0 }, { name := "pubVal", type := (.array .int), accessFlags := 2, slot := 13, constantValue := 0 }, { name := "subHas", type := (.array .boolean), accessFlags := 2, slot := 14, constantValue := 0 }, { name := "subVal", type := (.array .int), accessFlags := 2, slot := 15, constantValue := 0 }, { name := "pendKind", type := (.array .int), accessFlags := 2, slot := 16, constantValue := 0 }, { name := "pendVal", type := (.array .int), accessFlags := 2, slot := 17, constantValue := 0 }, { name := "emittedPos", type := .int, accessFlags := 2, slot := 18, constantValue := 0 }, { name := "appliedPos", type := .int, accessFlags := 2, slot := 19, constantValue := 0 }, { name := "confirmedPos", type := .int, accessFlags := 2, slot := 20, constantValue := 0 }, { name := "qKind", type := (.array .int), accessFlags := 2, slot := 21, constantValue := 0 }, { name := "qKey", type := (.array .int), accessFlags := 2, slot := 22, constantValue := 0 }, { name := "qVal", type := (.array .int), accessFlags := 2, slot := 23, constantValue := 0 }, { name := "qPos", type := (.array .int), accessFlags := 2, slot := 24, constantValue := 0 }, { name := "qHead", type := .int, accessFlags := 2, slot := 25, constantValue := 0 }, { name := "qCount", type := .int, accessFlags := 2, slot := 26, constantValue := 0 }]
  methods := #[k2m0, k2m1, k2m2, k2m3, k2m4, k2m5, k2m6, k2m7, k2m8, k2m9, k2m10, k2m11, k2m12, k2m13, k2m14, k2m15, k2m16]
  instanceTypes := #[.int, .int, .int, .int, .int, (.array .int), (.array .int), (.array .int), (.array .int), (.array .int), (.array .boolean), (.array .int), (.array .boolean), (.array .int), (.array .boolean), (.array .int), (.array .int), (.array .int), .int, .int, .int, (.array .int), (.array .int), (.array .int), (.array .int), .int, .int]
  staticTypes := #[.int, .int, .int, .int, .int, .int, .int, .int, .int, .int, .long, .long, .long, .int, .int, .int, .int, .int, .int, .int, .int, .int, .int, .int, .int, .int, .int, .int]
  resolved := Array.replicate 231 none
  statics := none }

def pool3 : Array CpInfo := pool [(1, u "java/lang/Cloneable"), (0, .class_ 1), (0, u "java/lang/Object"), (0, .class_ 3)] 3

/-- java/lang/Cloneable -/
def k3 : Class := { plain "java/lang/Cloneable" (some 0) with
  accessFlags := 1537
  interfaces := #[]
  cf := some (fileOf pool3 2 #[] #[] 1537 4 #[] #[])
  fields := #[]
  methods := #[]
  instanceTypes := #[]
  staticTypes := #[]
  resolved := Array.replicate 8 none
  statics := none }

def pool4 : Array CpInfo := pool [(1, u "java/io/Serializable"), (0, .class_ 1), (0, u "java/lang/Object"), (0, .class_ 3)] 3

/-- java/io/Serializable -/
def k4 : Class := { plain "java/io/Serializable" (some 0) with
  accessFlags := 1537
  interfaces := #[]
  cf := some (fileOf pool4 2 #[] #[] 1537 4 #[] #[])
  fields := #[]
  methods := #[]
  instanceTypes := #[]
  staticTypes := #[]
  resolved := Array.replicate 8 none
  statics := none }

/-- the primitive boolean -/
def k5 : Class := { plain "boolean" none with kind := .primitive 'Z', accessFlags := 0x411 }
/-- [Z -/
def k6 : Class := { plain "[Z" (some 0) with kind := .array 5 .boolean, interfaces := #[3, 4], accessFlags := 1041 }

/-- the primitive byte -/
def k7 : Class := { plain "byte" none with kind := .primitive 'B', accessFlags := 0x411 }
/-- [B -/
def k8 : Class := { plain "[B" (some 0) with kind := .array 7 .byte, interfaces := #[3, 4], accessFlags := 1041 }

/-- the primitive int -/
def k9 : Class := { plain "int" none with kind := .primitive 'I', accessFlags := 0x411 }
/-- [I -/
def k10 : Class := { plain "[I" (some 0) with kind := .array 9 .int, interfaces := #[3, 4], accessFlags := 1041 }

def heap : Heap := #[]
def classes : Array Class := #[k0, k1, k2, k3, k4, k5, k6, k7, k8, k9, k10]
def interned : List (Array UInt16 × Addr) := []
def slotsUsed : Nat := 0
def theMethod : MethodId := ⟨1, 1⟩
def args0 : Array Value := #[.int 9, .int 3, .int 10, .int 4]
def aboutOver (below : List Frame) : State where
  vm := { classes := classes, interned := interned.toArray }
  heap := heap
  slotsUsed := slotsUsed
  threads := #[{ frames := .invoking theMethod args0 :: below }]
def below0 : List Frame := [.native { method := ⟨0, 0⟩, args := #[] }]
def about1 : State := aboutOver below0
def p0 : Program := .bare "" "" ""
def e0 : Env := launch0.env 0 0 0
theorem w_frames : about1.frames = Frame.invoking theMethod args0 :: below0 := rfl
set_option maxRecDepth 65536 in
theorem w_args : argsFit about1.vm theMethod args0 = true := by decide +kernel
set_option maxRecDepth 65536 in
theorem w_heap : heapFits about1 = true := by decide +kernel
set_option maxRecDepth 65536 in
theorem w_runnable : about1.curStatus? = some .runnable := by decide +kernel
set_option maxRecDepth 65536 in
theorem w_alone : about1.alone = true := by decide +kernel
set_option maxRecDepth 65536 in
theorem w_named : about1.methodNamed? x = some theMethod := by decide +kernel
set_option maxRecDepth 65536 in
theorem w_hears : about1.hears theMethod below0 = true := by decide +kernel
set_option maxRecDepth 65536 in
theorem w_ripe : about1.ripe theMethod args0 below0 = true := by decide +kernel
theorem w_running : about1.status = .running := rfl
set_option maxRecDepth 65536 in
theorem w_room : about1.hasRoom e0.platform room_1 = true :=
  launch0.hasRoom_least _ room_1 (by decide +kernel) (by decide +kernel) (by decide +kernel) (by decide +kernel) (by decide +kernel) (by decide +kernel)
theorem allAtoms_all (ts : List Jvm.Cond) (a : Array Jvm.Value) (st : Jvm.State) : (allAtoms ts).before a st = ts.all (fun c => c.before a st) := by
  induction ts with
  | nil => rfl
  | cons c t ih =>
    show (Jvm.Cond.and c (allAtoms t)).before a st = _
    rw [Jvm.Cond.before_and, ih, List.all_cons]
def words1 : List Jvm.Cond := Jvm.Cond.code x code maxLocals ret :: tables_1
/-- a 'code' word, met by the world's own term for the bytes: nothing is compared byte by byte -/
theorem code_word {y : MethodName} {bytes : ByteArray} {mx : Nat} {rt : Option FieldType} {a : Array Value} {s : State} {m : MethodId} {meth : Method} {c : Code} (h1 : s.methodNamed? y = some m) (h2 : s.vm.method? m = some meth) (h3 : meth.code = some c) (h4 : c.code = bytes)
    (h5 : (c.maxLocals == mx && c.exceptionTable.isEmpty && decide (c.maxStack ≤ mostOperands) && decide (meth.sig.returnType = rt) && !meth.locks && decide (parseMethodDescriptor y.desc = some meth.sig)) = true) : (Jvm.Cond.code y bytes mx rt).before a s = true := by
  simp only [Bool.and_eq_true, beq_iff_eq, Bool.not_eq_true', decide_eq_true_eq] at h5
  obtain ⟨⟨⟨⟨⟨g1, g2⟩, g3⟩, g4⟩, g5⟩, g6⟩ := h5
  simp [Cond.before, Cond.holds, Cond.value, h1, h2, h3, h4, g1, g2, g3, g4, g5, g6]
def isCode : Jvm.Cond → Bool
  | .code _ _ _ _ => true
  | _ => false
theorem all_split {L : List Jvm.Cond} {P : Jvm.Cond → Bool} (h1 : L.all (fun c => isCode c || P c) = true) (h2 : ∀ c ∈ L.filter isCode, P c = true) : L.all P = true := by
  refine List.all_eq_true.mpr fun c hc => ?_
  have h := List.all_eq_true.mp h1 c hc
  rcases Bool.eq_false_or_eq_true (isCode c) with hi | hi
  · exact h2 c (List.mem_filter.mpr ⟨hc, hi⟩)
  · simpa [hi] using h
set_option maxRecDepth 65536 in
theorem w_c0 : (Jvm.Cond.code x code maxLocals ret).before args0 about1 = true := code_word (m := ⟨1, 1⟩) (meth := k1m1) (c := k1c1) (by decide +kernel) rfl rfl rfl (by decide +kernel)
set_option maxRecDepth 65536 in
theorem w_c1 : (Jvm.Cond.code ({ cls := "LogicalReplicator", name := "<init>", desc := "(IIII)V" } : Jvm.MethodName) prog_1_method_1_code (5 : Nat) (Option.none : Option Jvm.ClassFile.FieldType)).before args0 about1 = true := code_word (m := ⟨2, 0⟩) (meth := k2m0) (c := k2c0) (by decide +kernel) rfl rfl rfl (by decide +kernel)
set_option maxRecDepth 65536 in
theorem w_c2 : (Jvm.Cond.code ({ cls := "java/lang/Object", name := "<init>", desc := "()V" } : Jvm.MethodName) object_method_1_code (1 : Nat) (Option.none : Option Jvm.ClassFile.FieldType)).before args0 about1 = true := code_word (m := ⟨0, 0⟩) (meth := k0m0) (c := k0c0) (by decide +kernel) rfl rfl rfl (by decide +kernel)
set_option maxRecDepth 65536 in
theorem w_c3 : (Jvm.Cond.code ({ cls := "LogicalReplicator", name := "clamp", desc := "(III)I" } : Jvm.MethodName) prog_1_method_2_code (4 : Nat) (Option.some Jvm.ClassFile.FieldType.int)).before args0 about1 = true := code_word (m := ⟨2, 1⟩) (meth := k2m1) (c := k2c1) (by decide +kernel) rfl rfl rfl (by decide +kernel)
set_option maxRecDepth 65536 in
theorem w_c4 : (Jvm.Cond.code ({ cls := "LogicalReplicator", name := "begin", desc := "(I)I" } : Jvm.MethodName) prog_1_method_8_code (3 : Nat) (Option.some Jvm.ClassFile.FieldType.int)).before args0 about1 = true := code_word (m := ⟨2, 7⟩) (meth := k2m7) (c := k2c7) (by decide +kernel) rfl rfl rfl (by decide +kernel)
set_option maxRecDepth 65536 in
theorem w_c5 : (Jvm.Cond.code ({ cls := "LogicalReplicator", name := "validSlot", desc := "(I)Z" } : Jvm.MethodName) prog_1_method_3_code (2 : Nat) (Option.some Jvm.ClassFile.FieldType.boolean)).before args0 about1 = true := code_word (m := ⟨2, 2⟩) (meth := k2m2) (c := k2c2) (by decide +kernel) rfl rfl rfl (by decide +kernel)
set_option maxRecDepth 65536 in
theorem w_c6 : (Jvm.Cond.code ({ cls := "LogicalReplicator", name := "logFull", desc := "()Z" } : Jvm.MethodName) prog_1_method_5_code (1 : Nat) (Option.some Jvm.ClassFile.FieldType.boolean)).before args0 about1 = true := code_word (m := ⟨2, 4⟩) (meth := k2m4) (c := k2c4) (by decide +kernel) rfl rfl rfl (by decide +kernel)
set_option maxRecDepth 65536 in
theorem w_c7 : (Jvm.Cond.code ({ cls := "LogicalReplicator", name := "append", desc := "(IIII)I" } : Jvm.MethodName) prog_1_method_7_code (5 : Nat) (Option.some Jvm.ClassFile.FieldType.int)).before args0 about1 = true := code_word (m := ⟨2, 6⟩) (meth := k2m6) (c := k2c6) (by decide +kernel) rfl rfl rfl (by decide +kernel)
set_option maxRecDepth 65536 in
theorem w_c8 : (Jvm.Cond.code ({ cls := "LogicalReplicator", name := "put", desc := "(III)I" } : Jvm.MethodName) prog_1_method_9_code (4 : Nat) (Option.some Jvm.ClassFile.FieldType.int)).before args0 about1 = true := code_word (m := ⟨2, 8⟩) (meth := k2m8) (c := k2c8) (by decide +kernel) rfl rfl rfl (by decide +kernel)
set_option maxRecDepth 65536 in
theorem w_c9 : (Jvm.Cond.code ({ cls := "LogicalReplicator", name := "write", desc := "(IIII)I" } : Jvm.MethodName) prog_1_method_11_code (6 : Nat) (Option.some Jvm.ClassFile.FieldType.int)).before args0 about1 = true := code_word (m := ⟨2, 10⟩) (meth := k2m10) (c := k2c10) (by decide +kernel) rfl rfl rfl (by decide +kernel)
set_option maxRecDepth 65536 in
theorem w_c10 : (Jvm.Cond.code ({ cls := "LogicalReplicator", name := "checkOpenSlot", desc := "(I)I" } : Jvm.MethodName) prog_1_method_6_code (2 : Nat) (Option.some Jvm.ClassFile.FieldType.int)).before args0 about1 = true := code_word (m := ⟨2, 5⟩) (meth := k2m5) (c := k2c5) (by decide +kernel) rfl rfl rfl (by decide +kernel)
set_option maxRecDepth 65536 in
theorem w_c11 : (Jvm.Cond.code ({ cls := "LogicalReplicator", name := "validKey", desc := "(I)Z" } : Jvm.MethodName) prog_1_method_4_code (2 : Nat) (Option.some Jvm.ClassFile.FieldType.boolean)).before args0 about1 = true := code_word (m := ⟨2, 3⟩) (meth := k2m3) (c := k2c3) (by decide +kernel) rfl rfl rfl (by decide +kernel)
set_option maxRecDepth 65536 in
theorem w_c12 : (Jvm.Cond.code ({ cls := "LogicalReplicator", name := "del", desc := "(II)I" } : Jvm.MethodName) prog_1_method_10_code (3 : Nat) (Option.some Jvm.ClassFile.FieldType.int)).before args0 about1 = true := code_word (m := ⟨2, 9⟩) (meth := k2m9) (c := k2c9) (by decide +kernel) rfl rfl rfl (by decide +kernel)
set_option maxRecDepth 65536 in
theorem w_c13 : (Jvm.Cond.code ({ cls := "LogicalReplicator", name := "pubRow", desc := "(I)J" } : Jvm.MethodName) prog_1_method_27_code (2 : Nat) (Option.some Jvm.ClassFile.FieldType.long)).before args0 about1 = true := code_word (m := ⟨2, 13⟩) (meth := k2m13) (c := k2c13) (by decide +kernel) rfl rfl rfl (by decide +kernel)
set_option maxRecDepth 65536 in
theorem w_c14 : (Jvm.Cond.code ({ cls := "LogicalReplicator", name := "commit", desc := "(I)I" } : Jvm.MethodName) prog_1_method_12_code (5 : Nat) (Option.some Jvm.ClassFile.FieldType.int)).before args0 about1 = true := code_word (m := ⟨2, 11⟩) (meth := k2m11) (c := k2c11) (by decide +kernel) rfl rfl rfl (by decide +kernel)
set_option maxRecDepth 65536 in
theorem w_c15 : (Jvm.Cond.code ({ cls := "LogicalReplicator", name := "applyToPublisher", desc := "(III)V" } : Jvm.MethodName) prog_1_method_13_code (7 : Nat) (Option.none : Option Jvm.ClassFile.FieldType)).before args0 about1 = true := code_word (m := ⟨2, 12⟩) (meth := k2m12) (c := k2c12) (by decide +kernel) rfl rfl rfl (by decide +kernel)
set_option maxRecDepth 65536 in
theorem w_c16 : (Jvm.Cond.code ({ cls := "LogicalReplicator", name := "info", desc := "(I)I" } : Jvm.MethodName) prog_1_method_31_code (2 : Nat) (Option.some Jvm.ClassFile.FieldType.int)).before args0 about1 = true := code_word (m := ⟨2, 14⟩) (meth := k2m14) (c := k2c14) (by decide +kernel) rfl rfl rfl (by decide +kernel)
set_option maxRecDepth 65536 in
theorem w_c17 : (Jvm.Cond.code ({ cls := "LogicalReplicator", name := "countPubRows", desc := "()I" } : Jvm.MethodName) prog_1_method_33_code (3 : Nat) (Option.some Jvm.ClassFile.FieldType.int)).before args0 about1 = true := code_word (m := ⟨2, 16⟩) (meth := k2m16) (c := k2c16) (by decide +kernel) rfl rfl rfl (by decide +kernel)
set_option maxRecDepth 65536 in
theorem w_c18 : (Jvm.Cond.code ({ cls := "LogicalReplicator", name := "countOpen", desc := "()I" } : Jvm.MethodName) prog_1_method_32_code (3 : Nat) (Option.some Jvm.ClassFile.FieldType.int)).before args0 about1 = true := code_word (m := ⟨2, 15⟩) (meth := k2m15) (c := k2c15) (by decide +kernel) rfl rfl rfl (by decide +kernel)
def codes1 : List Jvm.Cond := [Jvm.Cond.code x code maxLocals ret, Jvm.Cond.code ({ cls := "LogicalReplicator", name := "<init>", desc := "(IIII)V" } : Jvm.MethodName) prog_1_method_1_code (5 : Nat) (Option.none : Option Jvm.ClassFile.FieldType), Jvm.Cond.code ({ cls := "java/lang/Object", name := "<init>", desc := "()V" } : Jvm.MethodName) object_method_1_code (1 : Nat) (Option.none : Option Jvm.ClassFile.FieldType), Jvm.Cond.code ({ cls := "LogicalReplicator", name := "clamp", desc := "(III)I" } : Jvm.MethodName) prog_1_method_2_code (4 : Nat) (Option.some Jvm.ClassFile.FieldType.int), Jvm.Cond.code ({ cls := "LogicalReplicator", name := "begin", desc := "(I)I" } : Jvm.MethodName) prog_1_method_8_code (3 : Nat) (Option.some Jvm.ClassFile.FieldType.int), Jvm.Cond.code ({ cls := "LogicalReplicator", name := "validSlot", desc := "(I)Z" } : Jvm.MethodName) prog_1_method_3_code (2 : Nat) (Option.some Jvm.ClassFile.FieldType.boolean), Jvm.Cond.code ({ cls := "LogicalReplicator", name := "logFull", desc := "()Z" } : Jvm.MethodName) prog_1_method_5_code (1 : Nat) (Option.some Jvm.ClassFile.FieldType.boolean), Jvm.Cond.code ({ cls := "LogicalReplicator", name := "append", desc := "(IIII)I" } : Jvm.MethodName) prog_1_method_7_code (5 : Nat) (Option.some Jvm.ClassFile.FieldType.int), Jvm.Cond.code ({ cls := "LogicalReplicator", name := "put", desc := "(III)I" } : Jvm.MethodName) prog_1_method_9_code (4 : Nat) (Option.some Jvm.ClassFile.FieldType.int), Jvm.Cond.code ({ cls := "LogicalReplicator", name := "write", desc := "(IIII)I" } : Jvm.MethodName) prog_1_method_11_code (6 : Nat) (Option.some Jvm.ClassFile.FieldType.int), Jvm.Cond.code ({ cls := "LogicalReplicator", name := "checkOpenSlot", desc := "(I)I" } : Jvm.MethodName) prog_1_method_6_code (2 : Nat) (Option.some Jvm.ClassFile.FieldType.int), Jvm.Cond.code ({ cls := "LogicalReplicator", name := "validKey", desc := "(I)Z" } : Jvm.MethodName) prog_1_method_4_code (2 : Nat) (Option.some Jvm.ClassFile.FieldType.boolean), Jvm.Cond.code ({ cls := "LogicalReplicator", name := "del", desc := "(II)I" } : Jvm.MethodName) prog_1_method_10_code (3 : Nat) (Option.some Jvm.ClassFile.FieldType.int), Jvm.Cond.code ({ cls := "LogicalReplicator", name := "pubRow", desc := "(I)J" } : Jvm.MethodName) prog_1_method_27_code (2 : Nat) (Option.some Jvm.ClassFile.FieldType.long), Jvm.Cond.code ({ cls := "LogicalReplicator", name := "commit", desc := "(I)I" } : Jvm.MethodName) prog_1_method_12_code (5 : Nat) (Option.some Jvm.ClassFile.FieldType.int), Jvm.Cond.code ({ cls := "LogicalReplicator", name := "applyToPublisher", desc := "(III)V" } : Jvm.MethodName) prog_1_method_13_code (7 : Nat) (Option.none : Option Jvm.ClassFile.FieldType), Jvm.Cond.code ({ cls := "LogicalReplicator", name := "info", desc := "(I)I" } : Jvm.MethodName) prog_1_method_31_code (2 : Nat) (Option.some Jvm.ClassFile.FieldType.int), Jvm.Cond.code ({ cls := "LogicalReplicator", name := "countPubRows", desc := "()I" } : Jvm.MethodName) prog_1_method_33_code (3 : Nat) (Option.some Jvm.ClassFile.FieldType.int), Jvm.Cond.code ({ cls := "LogicalReplicator", name := "countOpen", desc := "()I" } : Jvm.MethodName) prog_1_method_32_code (3 : Nat) (Option.some Jvm.ClassFile.FieldType.int)]
set_option maxRecDepth 65536 in
theorem codes_eq : words1.filter isCode = codes1 := rfl
theorem w_codes : ∀ c ∈ words1.filter isCode, c.before args0 about1 = true := by
  rw [codes_eq]
  intro c hc
  simp only [codes1, List.mem_cons, List.not_mem_nil, or_false] at hc
  rcases hc with rfl | rfl | rfl | rfl | rfl | rfl | rfl | rfl | rfl | rfl | rfl | rfl | rfl | rfl | rfl | rfl | rfl | rfl | rfl
  · exact w_c0
  · exact w_c1
  · exact w_c2
  · exact w_c3
  · exact w_c4
  · exact w_c5
  · exact w_c6
  · exact w_c7
  · exact w_c8
  · exact w_c9
  · exact w_c10
  · exact w_c11
  · exact w_c12
  · exact w_c13
  · exact w_c14
  · exact w_c15
  · exact w_c16
  · exact w_c17
  · exact w_c18
set_option maxRecDepth 65536 in
theorem w_t1 : (words1.take 24).all (fun c => isCode c || c.before args0 about1) = true := by decide +kernel
set_option maxRecDepth 65536 in
theorem w_t2 : ((words1.drop 24).take 24).all (fun c => isCode c || c.before args0 about1) = true := by decide +kernel
set_option maxRecDepth 65536 in
theorem w_t3 : (((words1.drop 24).drop 24).take 24).all (fun c => isCode c || c.before args0 about1) = true := by decide +kernel
set_option maxRecDepth 65536 in
theorem w_t4 : ((((words1.drop 24).drop 24).drop 24).take 24).all (fun c => isCode c || c.before args0 about1) = true := by decide +kernel
set_option maxRecDepth 65536 in
theorem w_t5 : (((((words1.drop 24).drop 24).drop 24).drop 24).take 24).all (fun c => isCode c || c.before args0 about1) = true := by decide +kernel
set_option maxRecDepth 65536 in
theorem w_t6 : (((((words1.drop 24).drop 24).drop 24).drop 24).drop 24).all (fun c => isCode c || c.before args0 about1) = true := by decide +kernel
theorem w_tables : (allAtoms (Jvm.Cond.code x code maxLocals ret :: tables_1)).before args0 about1 = true := by
  rw [allAtoms_all]
  show words1.all (fun c => c.before args0 about1) = true
  refine all_split ?_ w_codes
  rw [← List.take_append_drop 24 words1, List.all_append, w_t1, ← List.take_append_drop 24 (words1.drop 24), List.all_append, w_t2, ← List.take_append_drop 24 ((words1.drop 24).drop 24), List.all_append, w_t3, ← List.take_append_drop 24 (((words1.drop 24).drop 24).drop 24), List.all_append, w_t4, ← List.take_append_drop 24 ((((words1.drop 24).drop 24).drop 24).drop 24), List.all_append, w_t5, w_t6]
  rfl
set_option maxRecDepth 65536 in
theorem w_case : (Jvm.Cond.and given_1 narrow_1).before args0 about1 = true := by decide +kernel
theorem w_applies : (headSpec (Jvm.Cond.code x code maxLocals ret :: tables_1) room_1).applies x e0.platform about1 = true :=
  (Spec.applies_iff w_frames).mpr ⟨w_running, w_runnable, w_alone, w_named, w_hears, w_ripe, w_room, w_tables⟩
theorem atStart : AtStart classFile x code maxLocals ret World_1 tables_1 room_1 Calls_1 rest_1 Pre_1 launch0 p0 e0 about1 theMethod args0 below0 :=
  ⟨lists_1, trivial, launch0.admits_env _ _ _, launch0.least_env, fairChoices_fair.cas, fairChoices_fair.clock, w_frames, w_args, w_heap, w_applies, trivial, trivial, w_case⟩
end start1
theorem witness_1 : WitnessClaimed_1 := ⟨start1.p0, start1.e0, start1.about1, start1.theMethod, start1.args0, start1.below0, start1.atStart⟩
end Jvm.Pilot.@@N@@
