import Derived.WalkKit
import Derived.Lib.Hide
import Derived.Test.YtgdiadednlajgaaGreatDoorRows
import Derived.ProofKit
import Derived.OpenShut
import Derived.ShutString
import Derived.SizedLaws
import Derived.Deep.Slices
import Derived.Lib.Bytealg
import Derived.BigQuiet
import Derived.Deep.DeepCutAuto
import Derived.Deep.RegionHeld3
namespace Go.Proofs.YtgdiadednlajgaaGreatDoor
set_option linter.unusedVariables false
set_option linter.unusedSimpArgs false
open Go.RowKit
def Rd(w:World)(B s:Nat)(A:Option Addr)(n:Nat)(xs:List Value):Prop:=
 xs.length=n*s∧(0<n→∃b o,A=some ⟨b,o,none⟩∧b<B∧∀j u,xs[j]? =some u→w.cell? ⟨b,o+j,none⟩=some u)
structure SlT(P:Program)(t e:TypeId)(size bytes:Nat):Prop where
 und:P.underlying t=some (.slice e)
 info:∃i z,P.info? e=some i∧i.zero=some z∧i.size=size∧i.bytes=bytes∧z.cells.size=size
 pos:0<size
 bpos:0<bytes
theorem SlT.mk'{P:Program}{t e:TypeId}{z:Value}{size bytes:Nat}(und:P.underlying t=some (.slice e))
  (h:(P.info? e).map (fun i=>(i.zero,i.size,i.bytes))=some (some z,size,bytes)) (hz:z.cells.size=size) (hp:0<size) (hb:0<bytes):SlT P t e size bytes:=by
 obtain⟨i,hi,h1,h2,h3⟩:=info_parts h
 exact⟨und,⟨i,z,hi,h1,h2,h3,hz⟩,hp,hb⟩
section
variable {w w':World}{B B' s n:Nat}{A:Option Addr}{xs:List Value}
theorem Rd.nil_:Rd w B s A 0 []:=⟨by simp,fun h=>absurd h (by omega)⟩
theorem Rd.len(h:Rd w B 1 A n xs):xs.length=n:=by have:=h.1;omega
theorem Rd.empty(h:Rd w B s A 0 xs):xs=[]:=List.eq_nil_of_length_eq_zero (by have:=h.1;omega)
theorem Rd.keep(h:Rd w B s A n xs)(hk:∀p:Addr,p.block<B→w'.cell? p=w.cell? p):Rd w' B s A n xs:=
 ⟨h.1,fun hn=>by
  obtain⟨b,o,e,hb,hc⟩:=h.2 hn
  exact⟨b,o,e,hb,fun j u hu=>(hk _ hb).trans (hc j u hu)⟩⟩
theorem Rd.more(h:Rd w B s A n xs)(hB:B≤B'):Rd w B' s A n xs:=
 ⟨h.1,fun hn=>by
  obtain⟨b,o,e,hb,hc⟩:=h.2 hn
  exact⟨b,o,e,by omega,hc⟩⟩
theorem Rd.below(h:Rd w B s A n xs)(hb:Below B w w'):Rd w' B s A n xs:=h.keep fun _ hp=>hb.cell hp
theorem Rd.drew(h:Rd w B s A n xs):Rd w.drew B s A n xs:=h
theorem Rd.alloc(h:Rd w B s A n xs)(hB:B≤w.heap.size)(o:Obj):Rd (w.alloc o) B s A n xs:=h.below ((Below.refl _ _).alloc hB o)
theorem Rd.at_{k:Nat}(h:Rd w B 1 A n xs)(hk:k<n):∃b o u,A=some ⟨b,o,none⟩∧b<B∧xs[k]? =some u∧w.cell? ⟨b,o+k,none⟩=some u:=by
 obtain⟨b,o,e,hb,hc⟩:=h.2 (by omega)
 have hl:k<xs.length:=by have:=h.1;omega
 exact⟨b,o,xs[k],e,hb,List.getElem?_eq_getElem hl,hc k _ (List.getElem?_eq_getElem hl)⟩
theorem Rd.take{m:Nat}(h:Rd w B s A n xs)(hm:m≤n):Rd w B s A m (xs.take (m*s)):=by
 refine⟨by rw[List.length_take,h.1];exact Nat.min_eq_left (Nat.mul_le_mul_right _ hm),fun h0=>?_⟩
 obtain⟨b,o,e,hb,hc⟩:=h.2 (by omega)
 refine⟨b,o,e,hb,fun j u hu=>hc j u ?_⟩
 rw[List.getElem?_take] at hu
 split at hu
 ·exact hu
 ·cases hu
theorem Rd.drop{k cap:Nat}(h:Rd w B s A n xs)(hk:k≤n)(hc:n≤cap):
  Rd w B s (if cap=k then A else A.map (·.add (k*s))) (n - k) (xs.drop (k*s)):=by
 refine⟨by rw[List.length_drop,h.1,Nat.sub_mul],fun hn=>?_⟩
 obtain⟨b,o,rfl,hb,hcell⟩:=h.2 (by omega)
 rw[if_neg (by omega)]
 refine⟨b,o+k*s,?_,hb,fun j u hu=>?_⟩
 ·simp only[Option.map_some,Option.some.injEq]
  unfold Addr.add
  split<;>simp_all
 ·rw[Nat.add_assoc]
  exact hcell _ u (by rw[← hu,List.getElem?_drop])
theorem Rd.of_own{base:Nat}{e:TypeId}{c:Nat}(h:w.ownsRow base e s (.slice A n c) n xs):Rd w w.heap.size s A n xs:=by
 refine⟨h.1,fun hn=>?_⟩
 rcases h.2 with ⟨hv,h0⟩|⟨g,cap,cur,hv,_,hg,_,_,_,ht⟩
 ·omega
 ·simp only[Value.slice.injEq] at hv
  obtain⟨rfl,_,rfl⟩:=hv
  refine⟨g,0,rfl,(Array.getElem?_eq_some_iff.1 hg).1,fun j u hu=>?_⟩
  rw[cell_of_row w g (0+j) cur e (0,0) hg]
  rw[← ht,List.getElem?_take] at hu
  split at hu
  ·simpa using hu
  ·cases hu
theorem Rd.one(w:World)(u:Value)(e:TypeId):Rd (w.alloc (.cells #[u] e)) (w.heap.size+1) 1 (some ⟨w.heap.size,0,none⟩) 1 [u]:=by
 refine⟨rfl,fun _=>⟨_,_,rfl,by omega,fun j x hx=>?_⟩⟩
 match j,hx with
 |0,hx=>simp at hx;subst hx;simp
end
def Zj(A:Option Addr)(c k s:Nat):Option Addr:=if c=k then A else A.map (·.add (k*s))
theorem Rd.cut{w:World}{B s n:Nat}{A:Option Addr}{xs:List Value}{k m c:Nat}(h:Rd w B s A n xs)(hk:k+m≤n)(hc:n≤c):Rd w B s (Zj A c k s) m ((xs.drop (k*s)).take (m*s)):=by
 exact(h.drop (k:=k) (cap:=c) (by omega) hc).take (by omega)
theorem Qat{P:Program}{t e:TypeId}{size bytes:Nat}(hT:SlT P t e size bytes)(A:Option Addr)(n c h:Nat)(h2:h≤c)(w:World):
  (Instr.sliceAt t (.slice A n c) none (some (.int .i64 (h:Int))) none).run P w=.ok (.slice (Zj A c 0 size) h c) w:=by
 obtain⟨i,z,hi,hz,hs,hby,hzs⟩:=hT.info
 have he:P.elem t=e:=by simp [Program.elem,hT.und]
 have ht:P.underlying t=some (.slice (P.elem t)):=by rw[he];exact hT.und
 rw[run_sliceAt_slice w t _ _ _ _ ht,run_slice_h w t A n c ht .i64 h (by omega) (by omega),he]
 simp [sizeOf,typeInfo,hi,hs,sliced,Zj]
theorem Qa3{P:Program}{t e:TypeId}{size bytes:Nat}(hT:SlT P t e size bytes)(A:Option Addr)(n c l:Nat)(h1:l≤n)(w:World):
  (Instr.sliceAt t (.slice A n c) (some (.int .i64 (l:Int))) none none).run P w=.ok (.slice (Zj A c l size) (n - l) (c - l)) w:=by
 obtain⟨i,z,hi,hz,hs,hby,hzs⟩:=hT.info
 have he:P.elem t=e:=by simp [Program.elem,hT.und]
 have ht:P.underlying t=some (.slice (P.elem t)):=by rw[he];exact hT.und
 rw[run_sliceAt_slice w t _ _ _ _ ht,run_slice_l w t A n c ht .i64 l (by omega) (by omega),he]
 simp [sizeOf,typeInfo,hi,hs,sliced,Zj]
theorem Q9O{w:World}{base:Nat}{e:TypeId}{s:Nat}{v:Value}{n:Nat}{xs:List Value}(h:w.ownsRow base e s v n xs):∃A c,v=.slice A n c:=by
 rcases h.2 with ⟨rfl,rfl⟩|⟨g,cap,cur,rfl,_⟩
 ·exact⟨_,_,rfl⟩
 ·exact⟨_,_,rfl⟩
def bv(bs:List UInt8):List Value:=bs.map fun b=>.int .u8 (b.toNat:Int)
theorem Q5H(bs:List UInt8):(bv bs).length=bs.length:=by simp [bv]
theorem Q8G(a b:List UInt8):bv (a++b)=bv a++bv b:=by simp [bv]
def Qcy(w:World)(bs:List UInt8)(e:Ending)(w':World):Prop:=
 ∃A c,e=.returned (.slice A bs.length c)∧w'.ownsRow w.heap.size 5 1 (.slice A bs.length c) bs.length (bv bs)∧Below w.heap.size w w'
theorem Q8a(ns:List UInt8):∀s:ByteArray,(ns.map (fun b=>((b.toNat:Nat):Int))).foldl (fun r n=>r.push (UInt8.ofNat n.toNat)) s=⟨s.data++ns.toArray⟩:=by
 induction ns with
 |nil=>intro s;simp
 |cons b ns ih=>
  intro s
  simp only[List.map_cons,List.foldl_cons]
  rw[ih]
  congr 1
  simp [ByteArray.push]
theorem Q5t{w:World}{B:Nat}{A:Option Addr}{n c:Nat}{bs:List UInt8}(h:Rd w B 1 A n (bv bs)):
  (convert 49 9 (.slice A n c)).run Tryz.prog w=.ok (.string ⟨bs.toArray⟩) w:=by
 rw[run_convert_bytes_string w 49 9 5 A n c Tryz.underlying49 Tryz.underlying5 Tryz.underlying9];have hl:=h.len;rw[Q5H] at hl
 rcases A with _|ad
 ·have hn:n=0:=by
   rcases Nat.eq_zero_or_pos n with h0|h0
   ·exact h0
   ·obtain⟨b,o,e,_⟩:=h.2 h0
    cases e
  subst hn;obtain rfl:bs=[]:=List.eq_nil_of_length_eq_zero hl
  rfl
 ·have hload:(loadCells ad n).run Tryz.prog w=.ok ((bs.map (fun b=>((b.toNat:Nat):Int))).map (Value.int .u8)).toArray w:=by
   have e:(bs.map (fun b=>((b.toNat:Nat):Int))).map (Value.int .u8)=bv bs:=by simp [bv]
   rw[e]
   have hn:n=(bv bs).length:=by rw[Q5H];omega
   rw[hn];refine run_loadCells_list w ad (bv bs) ?_;intro j v hv;have hj:j<(bv bs).length:=(List.getElem?_eq_some_iff.1 hv).1;obtain⟨b,o,e,_,hc⟩:=h.2 (by omega)
   injection e with e
   subst e
   have e:(⟨b,o,none⟩:Addr).add j=⟨b,o+j,none⟩:=by unfold Addr.add;split<;>simp_all
   rw[e];exact hc j v hv
  rw[run_bytesToString w ad n c _ hload,Q8a];have e0:ByteArray.empty.data=#[]:=rfl;rw[e0,Array.empty_append]
theorem Q6E{w:World}{B B':Nat}{A A':Option Addr}{n n' c c':Nat}{a b:List UInt8}(ha:Rd w B 1 A n (bv a))(hb:Rd w B' 1 A' n' (bv b)):
  Calls Tryz.prog 87 #[.slice A n c,.slice A' n' c'] w fun e w'=>e=.returned (.bool (a==b))∧w=w':=by
 have ra:=Q5t (c:=c) ha;have rb:=Q5t (c:=c') hb
 go_enter Tryz.func87,Tryz.ntmps87
 go_wp2
 go_ret
 exact⟨rfl,rfl⟩
theorem Qc5(c i:Int)(w:World):Calls Tryz.prog 15 #[.int .i64 c,.int .i64 i] w fun e w'=>e=.returned (.agg #[.int .i64 c,.int .i64 i])∧w.alloc (.cells #[.int .i64 c,.int .i64 i] 27)=w':=by
 go_enter Tryz.func15,Tryz.ntmps15
 go_wp2
 exact bodyPost_ret (v:=.agg #[.int .i64 c,.int .i64 i]) (by simp [results,Tryz.results15,go_sem]) rfl ⟨rfl,rfl⟩
theorem Q6g(n l h:Int)(w:World):
  Calls Tryz.prog 14 #[.int .i64 n,.int .i64 l,.int .i64 h] w fun e w'=>e=.returned (.bool (decide (l≤n)&&decide (n≤h)))∧w=w':=by
 by_cases h1:l≤n
 ·have d1:decide (l≤n)=true:=by simp [h1]
  by_cases h2:n≤h
  ·have d2:decide (n≤h)=true:=by simp [h2]
   rw[d1,d2]
   go_enter Tryz.func14,Tryz.ntmps14
   go_wp2
   go_ret
   exact⟨rfl,rfl⟩
  ·have d2:decide (n≤h)=false:=by simp;omega
   rw[d1,d2]
   go_enter Tryz.func14,Tryz.ntmps14
   go_wp2
   go_ret
   exact⟨rfl,rfl⟩
 ·have d1:decide (l≤n)=false:=by simp;omega
  rw[d1]
  go_enter Tryz.func14,Tryz.ntmps14
  go_wp2
  go_ret
  exact⟨rfl,rfl⟩
open Go.ChangeShapes Go.WideShapes Go.ChangeAt Go.RowKit Go.Deep
theorem own:ownKnob Tryz.prog.godebug=none:=by kernel_rfl
theorem VL:laidOutB Tryz.prog=true:=by kernel_rfl
section
variable {H:Type}{enc:TypeId×Value→H}{W:World}{base:Nat}{v:Value}{d:DataW H}{p:List MemPlace}
theorem J8(d:DataW H):1≤Rows.uptoBulk d:=by
 cases d with
 |lit l=>cases l<;>simp [Rows.uptoBulk]
 |nil=>simp [Rows.uptoBulk]
 |ptr d=>simp [Rows.uptoBulk]
 |slice elems spare=>simp [Rows.uptoBulk]
 |agg parts=>simp [Rows.uptoBulk]
 |iface t d=>simp [Rows.uptoBulk]
 |map entries=>simp [Rows.uptoBulk]
 |held h=>simp [Rows.uptoBulk]
theorem Q6A(l:List (DataW H)):l.length≤Rows.uptoBulkAll l:=by
 induction l with
 |nil=>simp [Rows.uptoBulkAll]
 |cons x r ih=>have:=J8 x;simp only[Rows.uptoBulkAll,List.length_cons];omega
theorem Vh{l:List (DataW H)}(hk:Rows.uptoSmall H l=true):Rows.uptoBulkAll l≤1048576:=of_decide_eq_true hk
theorem Q3Z{k:IntKind}{a:Addr}{len cap:Nat}{zs:List Int}(hl:len≤cap)(hz:zs.length=cap)(hc:∀i,i<zs.length→W.cell? (a.add i)=some (.int k (zs.getD i 0))):
  Rd W W.heap.size 1 (some a) len ((zs.take len).map (Value.int k)):=by
 refine⟨by simp;omega,fun hn=>?_⟩;have h0:=hc 0 (by omega)
 have hs:a.spot=none:=by simpa [Addr.add] using World.cell?_spot h0
 obtain⟨b,o,sp⟩:=a
 simp only at hs
 subst hs;refine⟨b,o,rfl,World.block_lt_of_cell? W _ (by simpa [Addr.add] using h0),fun j u hu=>?_⟩;rw[List.getElem?_map,List.getElem?_take] at hu
 split at hu
 ·rename_i hj
  have hjl:j<zs.length:=by omega
  have:=hc j hjl;rw[List.getElem?_eq_getElem hjl] at hu
  simp only[Option.map_some,Option.some.injEq] at hu
  subst hu
  have e:(⟨b,o,none⟩:Addr).add j=⟨b,o+j,none⟩:=by unfold Addr.add;split<;>simp_all
  rw[e] at this;rw[this]
  simp [List.getD,List.getElem?_eq_getElem hjl]
 ·simp at hu
theorem Q4e(zs:List Int)(h:∀n∈zs,(Lit.int .u8 n).wf=true):∃bs:List UInt8,bs.length=zs.length∧zs.map (Value.int .u8)=bv bs:=by
 refine⟨zs.map fun z=>UInt8.ofNat z.toNat,by simp,?_⟩
 unfold bv
 rw[List.map_map]
 refine List.map_congr_left fun z hz=>?_
 have:=bounds_u8 (h z hz)
 have e:(UInt8.ofNat z.toNat).toNat=z.toNat:=by rw[UInt8.toNat_ofNat'];exact Nat.mod_eq_of_lt (by omega)
 simp only[Function.comp_apply,e]
 congr 1
 omega
end
theorem Q7c{P:Program}{f:FuncId}{args:Array Value}{w:World}{a n:Nat}{v:Value}(h:Calls P f args (w.drewN (a+n)) fun e w'=>e=.returned v∧w.drewN (a+n)=w'):Calls P f args (w.drewN (a+n)) fun e w''=>e=.returned v∧∃m,w''=w.drewN (a+m):=
 h.mono fun _ _ ⟨he,hm⟩=>⟨he,n,hm.symm⟩
theorem Vq(w:World)(n:Nat):Below w.heap.size w (w.drewN n):=by
 induction n with
 |zero=>exact Below.refl _ _
 |succ n ih=>exact ih.drew
theorem QcM(s:ByteArray)(c:Int)(w:World):(callFunc 142 #[.string s,.int .u8 c]).run Tryz.prog w=.ok (.value (.int .i64 (Lib.indexByte s.data.toList c.toNat.toUInt8))) w:=by
 rw[run_callFunc_extern Tryz.func142 (e:=Extern.BytealgIndexByte.indexByte) (by kernel_rfl) (by kernel_rfl) (by kernel_rfl) (by kernel_rfl),Lib.run_indexByteString]
 rfl
theorem KA(s:ByteArray)(c:Int)(w:World):Calls Tryz.prog 122 #[.string s,.int .u8 c] w fun e w'=>e=.returned (.int .i64 (Lib.indexByte s.data.toList c.toNat.toUInt8))∧w=w':=by
 have hr:=QcM s c
 go_enter Tryz.func122,Tryz.ntmps122
 go_wp2
 go_ret
 exact⟨rfl,rfl⟩
theorem VA(s:ByteArray)(c:Int)(w:World):Calls Tryz.prog 110 #[.string s,.int .u8 c] w fun e w'=>e=.returned (.int .i64 (Lib.indexByte s.data.toList c.toNat.toUInt8))∧w=w':=by
 go_enter Tryz.func110,Tryz.ntmps110
 go_wp2_with fail
 refine(KA s c _).mono ?_
 rintro e w' ⟨rfl,rfl⟩
 go_wp2_with fail
 go_ret
 exact⟨rfl,rfl⟩
def sgn:ByteArray:=⟨#[45,95,46]⟩
def Q0W(c:UInt8):Bool:=c==45||c==95||c==46
theorem Q9S(c:UInt8):decide (0≤Lib.indexByte sgn.data.toList c)=Q0W c:=by
 by_cases h1:c=45
 ·subst h1;decide
 ·by_cases h2:c=95
  ·subst h2;decide
  ·by_cases h3:c=46
   ·subst h3;decide
   ·have e:Q0W c=false:=by simp [Q0W,h1,h2,h3]
    rw[e]
    simp [sgn,Lib.indexByte,Ne.symm h1,Ne.symm h2,Ne.symm h3]
set_option maxRecDepth 100000 in
theorem Q2w(s:ByteArray)(c:UInt8)(w:World)(h:c.toNat<128):Calls Tryz.prog 130 #[.string s,.int .i32 (c.toNat:Int)] w fun e w'=>e=.returned (.int .i64 (Lib.indexByte s.data.toList c))∧w=w':=by
 have h0:(0:Int)≤(c.toNat:Int):=by omega
 have h1:(c.toNat:Int)<128:=by omega
 have HC:=Lib.hid (show ((c.toNat:Int).toNat).toUInt8=c by simp)
 go_enter Tryz.func130,Tryz.ntmps130
 go_wp2_with fail
 refine(VA s (c.toNat:Int) _).mono ?_
 rintro e w' ⟨rfl,rfl⟩
 rw[HC.out]
 go_wp2_with fail
 go_ret
 exact⟨rfl,rfl⟩
set_option maxRecDepth 100000 in
theorem Q4j(w:World):Calls Tryz.prog 130 #[.string sgn,.int .i32 65533] w fun e w'=>e=.returned (.int .i64 (-1))∧Below w.heap.size w w':=by
 unfold sgn
 have n0:∀ty,(Instr.next (.pointer (some ⟨w.heap.size,0,none⟩)) true ty).run Tryz.prog (w.iter ⟨#[45,95,46]⟩ 0)=.ok (.tuple #[.bool true,.int .i64 0,.int .i32 45]) (w.iter ⟨#[45,95,46]⟩ 1):=fun ty=>run_next_ascii w _ 0 ty (by decide) (by decide)
 have n1:∀ty,(Instr.next (.pointer (some ⟨w.heap.size,0,none⟩)) true ty).run Tryz.prog (w.iter ⟨#[45,95,46]⟩ 1)=.ok (.tuple #[.bool true,.int .i64 1,.int .i32 95]) (w.iter ⟨#[45,95,46]⟩ 2):=fun ty=>run_next_ascii w _ 1 ty (by decide) (by decide)
 have n2:∀ty,(Instr.next (.pointer (some ⟨w.heap.size,0,none⟩)) true ty).run Tryz.prog (w.iter ⟨#[45,95,46]⟩ 2)=.ok (.tuple #[.bool true,.int .i64 2,.int .i32 46]) (w.iter ⟨#[45,95,46]⟩ 3):=fun ty=>run_next_ascii w _ 2 ty (by decide) (by decide)
 have n3:∀ty,(Instr.next (.pointer (some ⟨w.heap.size,0,none⟩)) true ty).run Tryz.prog (w.iter ⟨#[45,95,46]⟩ 3)=.ok (.tuple #[.bool false]) (w.iter ⟨#[45,95,46]⟩ 3):=fun ty=>run_next_end w _ 3 ty (by decide)
 go_enter Tryz.func130,Tryz.ntmps130
 go_wp2_with fail
 refine wp_loop_rounds 4 ?_;rw[rounds_succ]
 go_wp2_with fail
 rw[rounds_succ]
 go_wp2_with fail
 rw[rounds_succ]
 go_wp2_with fail
 rw[rounds_succ]
 go_wp2_with fail
 go_ret
 exact⟨rfl,(Below.refl _ _).alloc (Nat.le_refl _) _⟩
theorem Q4m(r:Nat)(w:World)(h:r<55296):Calls Tryz.prog 148 #[.int .i32 (r:Int)] w fun e w'=>e=.returned (.bool true)∧w=w':=by
 have h0:(0:Int)≤(r:Int):=by omega
 have h1:(r:Int)<55296:=by omega
 go_enter Tryz.func148,Tryz.ntmps148
 go_wp2
 go_ret
 exact⟨rfl,rfl⟩
theorem Q48(r:Nat)(w:World)(h:57343<r)(h':r≤1114111):Calls Tryz.prog 148 #[.int .i32 (r:Int)] w fun e w'=>e=.returned (.bool true)∧w=w':=by
 have h0:(0:Int)≤(r:Int):=by omega
 have h1:¬(r:Int)<55296:=by omega
 have h2:(57343:Int)<r:=by omega
 have h3:(r:Int)≤1114111:=by omega
 go_enter Tryz.func148,Tryz.ntmps148
 go_wp2
 go_ret
 exact⟨rfl,rfl⟩
theorem Q5i(r:Nat)(w:World)(h:¬r<55296)(h':¬(57343<r∧r≤1114111)):Calls Tryz.prog 148 #[.int .i32 (r:Int)] w fun e w'=>e=.returned (.bool false)∧w=w':=by
 have h0:(0:Int)≤(r:Int):=by omega
 have h1:¬(r:Int)<55296:=by omega
 by_cases h4:57343<r
 ·have h2:(57343:Int)<r:=by omega
  have h3:¬(r:Int)≤1114111:=by omega
  clear h'
  go_enter Tryz.func148,Tryz.ntmps148
  go_wp2
  go_ret
  exact⟨rfl,rfl⟩
 ·have h2:¬(57343:Int)<r:=by omega
  clear h'
  go_enter Tryz.func148,Tryz.ntmps148
  go_wp2
  go_ret
  exact⟨rfl,rfl⟩
set_option maxRecDepth 100000 in
theorem Q2B(r:Nat)(w:World)(h:128≤r)(h1':¬r<55296)(h':¬(57343<r∧r≤1114111)):Calls Tryz.prog 130 #[.string sgn,.int .i32 (r:Int)] w fun e w'=>e=.returned (.int .i64 (-1))∧Below w.heap.size w w':=by
 have h0:(0:Int)≤(r:Int):=by omega
 have h1:¬(r:Int)<128:=by omega
 have h2:((r:Int)==65533)=false:=by simp;omega
 have HV:=Lib.hid (Q5i r w h1' h');clear h'
 unfold sgn
 go_enter Tryz.func130,Tryz.ntmps130
 go_wp2_with fail
 refine HV.out.mono ?_
 rintro e w' ⟨rfl,rfl⟩
 go_wp2_with fail
 go_ret
 exact⟨rfl,Below.refl _ _⟩
theorem Q7I(r:Nat)(h:128≤r)(hv:r<55296∨(57343<r∧r≤1114111)):(∃x y:UInt8,Utf8.encode (r:Int)=⟨#[x,y]⟩∧128≤y.toNat)∨(∃x y z:UInt8,Utf8.encode (r:Int)=⟨#[x,y,z]⟩∧128≤z.toNat)∨(∃x y z u:UInt8,Utf8.encode (r:Int)=⟨#[x,y,z,u]⟩∧128≤u.toNat):=by
 have hval:Utf8.valid (r:Int)=true:=by
  unfold Utf8.valid
  simp
  omega
 have key:∀n:Nat,128≤(UInt8.ofNat (128+n % 64)).toNat:=fun n=>by rw[UInt8.toNat_ofNat',Nat.mod_eq_of_lt (by omega)];omega
 unfold Utf8.encode
 simp only[hval,if_true,Int.toNat_natCast]
 rw[if_neg (by omega)]
 by_cases h1:r<2048
 ·rw[if_pos h1];exact .inl ⟨_,_,rfl,key _⟩
 ·rw[if_neg h1]
  by_cases h2:r<65536
  ·rw[if_pos h2];exact .inr (.inl ⟨_,_,_,rfl,key _⟩)
  ·rw[if_neg h2];exact .inr (.inr ⟨_,_,_,_,rfl,key _⟩)
theorem QbH(c:UInt8)(k:Nat)(h:128≤c.toNat):Lib.indexByte (sgn.extract k 3).data.toList c=-1:=by
 have key:∀l:List UInt8,(∀x∈l,x.toNat<128)→Lib.indexByte l c=-1:=by
  intro l
  induction l with
  |nil=>intro _;rfl
  |cons b l ih=>
   intro hl
   have h1:(b==c)=false:=by
    rw[beq_eq_false_iff_ne];rintro rfl;have:=hl b (by simp);omega
   simp [Lib.indexByte,h1,ih (fun x hx=>hl x (by simp [hx]))]
 refine key _ fun x hx=>?_
 have hx':x∈sgn.data.toList:=by
  have e:=Lib.extract_data sgn k 3;rw[e] at hx;exact List.mem_of_mem_drop (List.mem_of_mem_take hx)
 simp [sgn] at hx'
 rcases hx' with rfl|rfl|rfl<;>decide
set_option maxRecDepth 100000 in
set_option maxHeartbeats 1000000 in
theorem Q5l(r:Nat)(S R:ByteArray)(w:World)(hS:S.size=3)(hR:R.size=2)(he:Utf8.encode (r:Int)=R)(hne:((S[1].toNat:Int) != (R[1].toNat:Int))=true)(hnone:Lib.indexByte (S.extract 2 3).data.toList R[1]=-1)(h:128≤r)(hr:¬r=65533)
  (HV:Hid (Calls Tryz.prog 148 #[.int .i32 (r:Int)] w fun e w'=>e=.returned (.bool true)∧w=w')):Calls Tryz.prog 130 #[.string S,.int .i32 (r:Int)] w fun e w'=>e=.returned (.int .i64 (-1))∧Below w.heap.size w w':=by
 have h0:(0:Int)≤(r:Int):=by omega
 have h1:¬(r:Int)<128:=by omega
 have h2:((r:Int)==65533)=false:=by simp;omega
 have HN:=Lib.hid hnone;have HC:=Lib.hid (show ((R[1].toNat:Int).toNat).toUInt8=R[1] by simp);clear hr h hnone
 go_enter Tryz.func130,Tryz.ntmps130
 go_wp2_with fail
 refine HV.out.mono ?_
 rintro e w' ⟨rfl,rfl⟩
 go_wp2_with fail
 go_step3
 go_wp2_with fail
 refine wp_loop_rounds 1 ?_;rw[rounds_succ]
 go_wp2_with fail
 go_step3
 go_wp2_with fail
 clear h0 h1 h2 he HV
 go_quiet (fail)
 go_wp2_with fail
 go_quiet ((go_at_call 110;exact Q7c (VA _ _ _)))
 rw[HC.out,HN.out]
 go_wp2_with fail
 rw[Exit.noGoto_ret]
 go_wp2_with fail
 rw[Exit.noGoto_ret]
 go_ret
 exact⟨rfl,Vq _ _⟩
set_option maxRecDepth 100000 in
set_option maxHeartbeats 1000000 in
theorem Q65(r:Nat)(S R:ByteArray)(w:World)(hS:S.size=3)(hR:R.size=3)(he:Utf8.encode (r:Int)=R)(hne:((S[2].toNat:Int) != (R[2].toNat:Int))=true)(hnone:Lib.indexByte ByteArray.empty.data.toList R[2]=-1)(h:128≤r)(hr:¬r=65533)
  (HV:Hid (Calls Tryz.prog 148 #[.int .i32 (r:Int)] w fun e w'=>e=.returned (.bool true)∧w=w')):Calls Tryz.prog 130 #[.string S,.int .i32 (r:Int)] w fun e w'=>e=.returned (.int .i64 (-1))∧Below w.heap.size w w':=by
 have h0:(0:Int)≤(r:Int):=by omega
 have h1:¬(r:Int)<128:=by omega
 have h2:((r:Int)==65533)=false:=by simp;omega
 have HN:=Lib.hid hnone;have HC:=Lib.hid (show ((R[2].toNat:Int).toNat).toUInt8=R[2] by simp);clear hr h hnone
 go_enter Tryz.func130,Tryz.ntmps130
 go_wp2_with fail
 refine HV.out.mono ?_
 rintro e w' ⟨rfl,rfl⟩
 go_wp2_with fail
 go_step3
 go_wp2_with fail
 refine wp_loop_rounds 1 ?_;rw[rounds_succ]
 go_wp2_with fail
 go_step3
 go_wp2_with fail
 clear h0 h1 h2 he HV
 go_quiet (fail)
 go_wp2_with fail
 go_quiet ((go_at_call 110;exact Q7c (VA _ _ _)))
 rw[HC.out,HN.out]
 go_wp2_with fail
 rw[Exit.noGoto_ret]
 go_wp2_with fail
 rw[Exit.noGoto_ret]
 go_ret
 exact⟨rfl,Vq _ _⟩
set_option maxRecDepth 100000 in
set_option maxHeartbeats 1000000 in
theorem Q5B(r:Nat)(S R:ByteArray)(w:World)(hS:S.size=3)(hR:R.size=4)(he:Utf8.encode (r:Int)=R)(h:128≤r)(hr:¬r=65533)
  (HV:Hid (Calls Tryz.prog 148 #[.int .i32 (r:Int)] w fun e w'=>e=.returned (.bool true)∧w=w')):Calls Tryz.prog 130 #[.string S,.int .i32 (r:Int)] w fun e w'=>e=.returned (.int .i64 (-1))∧Below w.heap.size w w':=by
 have h0:(0:Int)≤(r:Int):=by omega
 have h1:¬(r:Int)<128:=by omega
 have h2:((r:Int)==65533)=false:=by simp;omega
 clear hr h
 go_enter Tryz.func130,Tryz.ntmps130
 go_wp2_with fail
 refine HV.out.mono ?_
 rintro e w' ⟨rfl,rfl⟩
 go_wp2_with fail
 go_step3
 go_wp2_with fail
 refine wp_loop_rounds 1 ?_;rw[rounds_succ]
 go_wp2_with fail
 rw[Exit.noGoto_ret]
 go_ret
 exact⟨rfl,Below.refl _ _⟩
theorem Q9u(k:Nat)(hk:k<sgn.size)(y:UInt8)(hy:128≤y.toNat):(((sgn[k]).toNat:Int) != (y.toNat:Int))=true:=by
 have hk3:k<3:=hk;rw[bne_iff_ne]
 have:sgn[k].toNat<128:=by
  match k,hk,hk3 with
  |0,_,_=>exact(show (45:UInt8).toNat<128 by decide)
  |1,_,_=>exact(show (95:UInt8).toNat<128 by decide)
  |2,_,_=>exact(show (46:UInt8).toNat<128 by decide)
 omega
theorem Q39(r:Nat)(w:World)(h:128≤r):Calls Tryz.prog 130 #[.string sgn,.int .i32 (r:Int)] w fun e w'=>e=.returned (.int .i64 (-1))∧Below w.heap.size w w':=by
 by_cases hr:r=65533
 ·subst hr;exact Q4j w
 ·by_cases hv:r<55296∨(57343<r∧r≤1114111)
  ·have HV:=Lib.hid (show Calls Tryz.prog 148 #[.int .i32 (r:Int)] w fun e w'=>e=.returned (.bool true)∧w=w' from by
    rcases hv with h|⟨h,h'⟩
    ·exact Q4m r w h
    ·exact Q48 r w h h')
   rcases Q7I r h hv with ⟨x,y,he,hy⟩|⟨x,y,z,he,hy⟩|⟨x,y,z,u,he,hy⟩
   ·exact Q5l r sgn ⟨#[x,y]⟩ w rfl rfl he (Q9u 1 (by decide) y hy) (QbH y 2 hy) h hr HV
   ·exact Q65 r sgn ⟨#[x,y,z]⟩ w rfl rfl he (Q9u 2 (by decide) z hy) rfl h hr HV
   ·exact Q5B r sgn ⟨#[x,y,z,u]⟩ w rfl rfl he h hr HV
  ·exact Q2B r w h (by omega) (by omega)
def okC(c:UInt8):Bool:=(97≤c.toNat&&c.toNat≤122)||(48≤c.toNat&&c.toNat≤57)||Q0W c
theorem Q0J{c:UInt8}(h1:97≤c.toNat)(h2:c.toNat≤122):okC c=true:=by simp [okC,h1,h2]
theorem Q1Q{c:UInt8}(h1:48≤c.toNat)(h2:c.toNat≤57):okC c=true:=by simp [okC,h1,h2]
theorem Q21{c:UInt8}(h1:¬(97≤c.toNat∧c.toNat≤122))(h2:¬(48≤c.toNat∧c.toNat≤57)):okC c=Q0W c:=by
 have e1:(decide (97≤c.toNat)&&decide (c.toNat≤122))=false:=by
  rw[Bool.and_eq_false_iff,decide_eq_false_iff_not,decide_eq_false_iff_not];omega
 have e2:(decide (48≤c.toNat)&&decide (c.toNat≤57))=false:=by
  rw[Bool.and_eq_false_iff,decide_eq_false_iff_not,decide_eq_false_iff_not];omega
 unfold okC
 rw[e1,e2]
 simp
theorem QbJ{c:UInt8}(h:128≤c.toNat):okC c=false:=by
 rw[Q21 (by omega) (by omega)]
 have key:∀d:UInt8,d.toNat<128→(c==d)=false:=fun d hd=>by
  rw[beq_eq_false_iff_ne];rintro rfl;omega
 simp [Q0W,key 45 (by decide),key 95 (by decide),key 46 (by decide)]
theorem Q0G(c:UInt8)(w:World)(h:c.toNat<128):Calls Tryz.prog 109 #[.string sgn,.int .i32 (c.toNat:Int)] w fun e w'=>e=.returned (.bool (Q0W c))∧w=w':=by
 have HS:=Lib.hid (Q9S c)
 go_enter Tryz.func109,Tryz.ntmps109
 go_wp2_with fail
 refine(Q2w sgn c _ h).mono ?_
 rintro e w' ⟨rfl,rfl⟩
 go_wp2_with fail
 go_ret
 exact⟨by rw[← HS.out];rfl,rfl⟩
theorem Q1g(r:Nat)(w:World)(h:128≤r):Calls Tryz.prog 109 #[.string sgn,.int .i32 (r:Int)] w fun e w'=>e=.returned (.bool false)∧Below w.heap.size w w':=by
 go_enter Tryz.func109,Tryz.ntmps109
 go_wp2_with fail
 refine(Q39 r _ h).mono ?_
 rintro e w' ⟨rfl,hb⟩
 go_wp2_with fail
 go_ret
 exact⟨rfl,hb⟩
theorem KR(c:UInt8)(w:World)(h:c.toNat<128):Calls Tryz.prog 108 #[.int .i32 (c.toNat:Int)] w fun e w'=>e=.returned (.bool (!okC c))∧w=w':=by
 by_cases h1:97≤c.toNat∧c.toNat≤122
 ·have HK:=Lib.hid (Q0J h1.1 h1.2);obtain⟨a1,a2⟩:=h1
  have a1':¬(c.toNat:Int)<97:=by omega
  have a2':¬(122:Int)<(c.toNat:Int):=by omega
  go_enter Tryz.func108,Tryz.ntmps108
  go_wp2_with fail
  go_ret
  exact⟨by rw[HK.out];rfl,rfl⟩
 ·by_cases h2:48≤c.toNat∧c.toNat≤57
  ·have HK:=Lib.hid (Q1Q h2.1 h2.2);obtain⟨a1,a2⟩:=h2
   have a3:(c.toNat:Int)<97:=by omega
   have a1':¬(c.toNat:Int)<48:=by omega
   have a2':¬(57:Int)<(c.toNat:Int):=by omega
   clear h1
   go_enter Tryz.func108,Tryz.ntmps108
   go_wp2_with fail
   go_ret
   exact⟨by rw[HK.out];rfl,rfl⟩
  ·have HK:=Lib.hid (Q21 h1 h2);have HC:=Lib.hid (Q0G c w h)
   by_cases b1:(c.toNat:Int)<97
   ·by_cases b2:(c.toNat:Int)<48
    ·clear h1 h2
     go_enter Tryz.func108,Tryz.ntmps108
     go_wp2_with fail
     refine HC.out.mono ?_
     rintro e w' ⟨rfl,rfl⟩
     go_wp2_with fail
     go_ret
     exact⟨by rw[HK.out];rfl,rfl⟩
    ·have b3:(57:Int)<(c.toNat:Int):=by omega
     clear h1 h2
     go_enter Tryz.func108,Tryz.ntmps108
     go_wp2_with fail
     refine HC.out.mono ?_
     rintro e w' ⟨rfl,rfl⟩
     go_wp2_with fail
     go_ret
     exact⟨by rw[HK.out];rfl,rfl⟩
   ·have b2:(122:Int)<(c.toNat:Int):=by omega
    have b3:¬(c.toNat:Int)<48:=by omega
    have b4:(57:Int)<(c.toNat:Int):=by omega
    clear h1 h2
    go_enter Tryz.func108,Tryz.ntmps108
    go_wp2_with fail
    refine HC.out.mono ?_
    rintro e w' ⟨rfl,rfl⟩
    go_wp2_with fail
    go_ret
    exact⟨by rw[HK.out];rfl,rfl⟩
theorem Q4r(r:Nat)(w:World)(h:128≤r):Calls Tryz.prog 108 #[.int .i32 (r:Int)] w fun e w'=>e=.returned (.bool true)∧Below w.heap.size w w':=by
 have b1:¬(r:Int)<97:=by omega
 have b2:(122:Int)<(r:Int):=by omega
 have b3:¬(r:Int)<48:=by omega
 have b4:(57:Int)<(r:Int):=by omega
 go_enter Tryz.func108,Tryz.ntmps108
 go_wp2_with fail
 refine(Q1g r _ h).mono ?_
 rintro e w' ⟨rfl,hb⟩
 go_wp2_with fail
 go_ret
 exact⟨rfl,hb⟩
theorem Q17{s:ByteArray}{k:Nat}(h:k<s.size):s.data.toList[k]? =some s[k]:=by
 rw[List.getElem?_eq_getElem (by simpa using h)];rfl
def Qca(l:List UInt8)(w:World)(e:Ending)(w':World):Prop:=∃n:Int,e=.returned (.int .i64 n)∧decide (0≤n)=(!(l.all okC))∧Below w.heap.size w w'
def Qfg(s:ByteArray)(w:World)(i:Value)(wr:World):Prop:=∃pos:Nat,pos≤s.size∧(s.data.toList.take pos).all okC=true∧w.iter s pos=wr
theorem Qdo{l:List UInt8}{k:Nat}{c:UInt8}(h:l[k]? =some c)(hc:okC c=false):l.all okC=false:=by
 rw[List.all_eq_false];exact⟨c,List.mem_of_getElem? h,by simp [hc]⟩
theorem Qci{l:List UInt8}{k:Nat}{c:UInt8}(h:l[k]? =some c)(hc:okC c=true)(hl:(l.take k).all okC=true):(l.take (k+1)).all okC=true:=by
 rw[List.take_add_one,h,Option.toList_some,List.all_append,hl]
 simp [hc]
theorem Qby{s:ByteArray}{w w':World}{k:Nat}{c:UInt8}(h:s.data.toList[k]? =some c)(hc:okC c=false)(hb:Below w.heap.size w w'):Qca s.data.toList w (.returned (.int .i64 (k:Int))) w':=
 ⟨_,rfl,by rw[Qdo h hc];simp,hb⟩
set_option maxRecDepth 100000 in
theorem Q2E(s:ByteArray)(w:World)(hs:s.size≤9223372036854775807):Calls Tryz.prog 147 #[.string s,.func (.func 108) #[] #[],.bool true] w (Qca s.data.toList w):=by
 go_enter Tryz.func147,Tryz.ntmps147
 go_wp2_with fail
 go_loopw [7] (Qfg s w) (fun _ wr=>s.size - wr.iterPos w.heap.size)
 case atStart=>exact⟨0,Nat.zero_le _,rfl,rfl⟩
 case round=>
  obtain⟨pos,hpos,hall,rfl⟩:=hrel;have HALL:=Lib.hid hall;clear hall
  by_cases hp:pos<s.size
  ·have HX:=Lib.hid (Q17 (s:=s) (k:=pos) hp)
   by_cases ha:s[pos].toNat<128
   ·have hnx:∀ty,(Instr.next (.pointer (some ⟨w.heap.size,0,none⟩)) true ty).run Tryz.prog (w.iter s pos)=_:=fun ty=>run_next_ascii w s pos ty hp ha
    by_cases hc:okC s[pos]=true
    ·go_wp2_with fail
     refine(KR s[pos] _ ha).mono ?_
     rintro e w' ⟨rfl,rfl⟩
     have HC:=Lib.hid hc;rw[HC.out];clear hc hnx
     go_wp2_with fail
     go_roundw
     case rel=>exact⟨pos+1,by omega,Qci HX.out HC.out HALL.out,rfl⟩
     case measure=>simp;omega
    ·have hc':okC s[pos]=false:=by simpa using hc
     have HC:=Lib.hid hc';clear hc hc'
     go_wp2_with fail
     refine(KR s[pos] _ ha).mono ?_
     rintro e w' ⟨rfl,rfl⟩
     rw[HC.out];clear hnx
     go_wp2_with fail
     go_ret
     exact Qby HX.out HC.out ((Below.refl _ _).alloc (Nat.le_refl _) _)
   ·have hh:=decode_high s pos hp (by omega);have HC:=Lib.hid (QbJ (c:=s[pos]) (by omega))
    have hnx:∀ty,(Instr.next (.pointer (some ⟨w.heap.size,0,none⟩)) true ty).run Tryz.prog (w.iter s pos)=_:=fun ty=>run_next_any w s pos ty hp
    generalize (Utf8.decode s pos).1=r at*
    generalize (Utf8.decode s pos).2=d at*
    go_wp2_with fail
    refine(Q4r r _ hh.1).mono ?_
    rintro e w' ⟨rfl,hb⟩
    clear hnx
    go_wp2_with fail
    go_ret
    exact Qby HX.out HC.out (((Below.refl _ _).alloc (Nat.le_refl _) _).trans (hb.mono (by simp [World.iter])))
  ·have hnx:∀ty,(Instr.next (.pointer (some ⟨w.heap.size,0,none⟩)) true ty).run Tryz.prog (w.iter s pos)=_:=fun ty=>run_next_end w s pos ty hp
   have HA:Hid (s.data.toList.all okC=true):=Lib.hid (by
    have:=HALL.out
    rwa [List.take_of_length_le (by simp;omega)] at this)
   go_wp2_with fail
   go_ret
   exact⟨-1,rfl,by rw[HA.out];rfl,(Below.refl _ _).alloc (Nat.le_refl _) _⟩
theorem Q1J(s:ByteArray)(w:World)(hs:s.size≤9223372036854775807):Calls Tryz.prog 129 #[.string s,.func (.func 108) #[] #[]] w (Qca s.data.toList w):=by
 go_enter Tryz.func129,Tryz.ntmps129
 go_wp2_with fail
 refine(Q2E s _ hs).mono ?_
 rintro e w' ⟨n,rfl,hn,hb⟩
 have HN:=Lib.hid hn;clear hn
 go_wp2_with fail
 go_ret
 exact⟨n,rfl,HN.out,hb⟩
theorem Q0B(s:ByteArray)(w:World)(hs:s.size≤9223372036854775807):Calls Tryz.prog 107 #[.string s,.func (.func 108) #[] #[]] w fun e w'=>e=.returned (.bool (!(s.data.toList.all okC)))∧Below w.heap.size w w':=by
 go_enter Tryz.func107,Tryz.ntmps107
 go_wp2_with fail
 refine(Q1J s _ hs).mono ?_
 rintro e w' ⟨n,rfl,hn,hb⟩
 have HN:=Lib.hid hn;clear hn
 go_wp2_with fail
 go_ret
 exact⟨by rw[← HN.out];rfl,hb⟩
def Qi(l:List UInt8):Bool:=decide (l.length≤32)&&(match l with|[]=>false|c::_=>decide (97≤c.toNat∧c.toNat≤122))&&l.all okC
theorem Q2h{l:List UInt8}(h:32<l.length):Qi l=false:=by
 have:decide (l.length≤32)=false:=decide_eq_false (by omega)
 simp [Qi,this]
theorem Q2s{l:List UInt8}{c:UInt8}(h:l[0]? =some c)(hc:¬(97≤c.toNat∧c.toNat≤122)):Qi l=false:=by
 match l,h with
 |x::r,h=>
  simp at h;subst h
  have:decide (97≤x.toNat∧x.toNat≤122)=false:=decide_eq_false hc
  unfold Qi
  simp only[this,Bool.and_false,Bool.false_and]
theorem Q3X{l:List UInt8}{c:UInt8}(hl:l.length≤32)(h:l[0]? =some c)(hc:97≤c.toNat∧c.toNat≤122):Qi l=l.all okC:=by
 match l,h with
 |x::r,h=>
  simp at h;subst h
  have h1:decide (97≤x.toNat∧x.toNat≤122)=true:=decide_eq_true hc;have h2:decide ((x::r).length≤32)=true:=decide_eq_true hl
  unfold Qi
  simp only[h1,h2,Bool.true_and]
theorem ZJ(s:ByteArray)(w:World)(hs:s.size≤9223372036854775807):Calls Tryz.prog 77 #[.string s] w fun e w'=>e=.returned (.bool (Qi s.data.toList))∧Below w.heap.size w w':=by
 by_cases h0:s.size=0
 ·have e0:s.toList=[]:=by rw[Lib.toList_data];exact List.eq_nil_of_length_eq_zero (by simpa using h0)
  have HK:=Lib.hid (show Qi s.data.toList=false by rw[List.eq_nil_of_length_eq_zero (l:=s.data.toList) (by simpa using h0)];rfl)
  have e1:s.toList.isEmpty=true:=by rw[e0];rfl
  go_enter Tryz.func77,Tryz.ntmps77
  go_wp2_with fail
  go_ret
  exact⟨by rw[HK.out];rfl,Below.refl _ _⟩
 ·have e1:s.toList.isEmpty=false:=by
   rw[Lib.toList_data]
   cases h:s.data.toList with
   |nil=>exact absurd (by simpa using congrArg List.length h) h0
   |cons=>rfl
  have e2:¬s.toList=[]:=by intro e;rw[e] at e1;cases e1
  by_cases h32:32<s.size
  ·have HK:=Lib.hid (Q2h (l:=s.data.toList) (by simpa using h32))
   have h32':(32:Int)<(s.size:Int):=by omega
   go_enter Tryz.func77,Tryz.ntmps77
   go_wp2_with fail
   go_ret
   exact⟨by rw[HK.out];rfl,Below.refl _ _⟩
  ·have h32':¬(32:Int)<(s.size:Int):=by omega
   have hpos:0<s.size:=by omega
   have HX:=Q17 (s:=s) (k:=0) hpos
   by_cases hc:97≤s[0].toNat∧s[0].toNat≤122
   ·have HK:=Lib.hid (Q3X (l:=s.data.toList) (by simpa using (show s.size≤32 by omega)) HX hc);obtain⟨c1,c2⟩:=hc
    have c1':¬(s[0].toNat:Int)<97:=by omega
    have c2':¬(122:Int)<(s[0].toNat:Int):=by omega
    clear HX
    go_enter Tryz.func77,Tryz.ntmps77
    go_wp2_with fail
    refine(Q0B s _ hs).mono ?_
    rintro e w' ⟨rfl,hb⟩
    go_wp2_with fail
    go_ret
    exact⟨by rw[HK.out];simp,hb⟩
   ·have HK:=Lib.hid (Q2s (l:=s.data.toList) HX hc);clear HX
    by_cases c1:(s[0].toNat:Int)<97
    ·clear hc
     go_enter Tryz.func77,Tryz.ntmps77
     go_wp2_with fail
     go_ret
     exact⟨by rw[HK.out];rfl,Below.refl _ _⟩
    ·have c2:(122:Int)<(s[0].toNat:Int):=by omega
     clear hc
     go_enter Tryz.func77,Tryz.ntmps77
     go_wp2_with fail
     go_ret
     exact⟨by rw[HK.out];rfl,Below.refl _ _⟩
structure Nd where
 k:Int
 n:Int
 bs:List UInt8
 ns:List (List UInt8)
inductive VF where
 |nil:VF
 |cons:Nd→VF→VF→VF
def VF.len:VF→Nat
 |.nil=>0
 |.cons _ _ r=>r.len+1
def VF.drop:VF→Nat→VF
 |F,0=>F
 |.nil,_+1=>.nil
 |.cons _ _ r,i+1=>r.drop i
def VF.take:VF→Nat→VF
 |_,0=>.nil
 |.nil,_+1=>.nil
 |.cons d p r,i+1=>.cons d p (r.take i)
theorem VF.drop_zero(F:VF):F.drop 0=F:=by cases F<;>rfl
theorem VF.take_zero(F:VF):F.take 0=.nil:=by cases F<;>rfl
def Qf9:Nat→Nat→List UInt8
 |0,u=>[UInt8.ofNat u]
 |k+1,u=>if u<128 then [UInt8.ofNat u] else UInt8.ofNat (u % 128+128)::Qf9 k (u / 128)
def enc(u:Nat):List UInt8:=Qf9 u u
def zig(n:Int):Nat:=if 0≤n then 2*n.toNat else 2*(-(n+1)).toNat+1
def num(n:Int):List UInt8:=enc (zig n)
def QeF:Nat→List UInt8→Sum Nat (Nat×Nat)
 |_,[]=>.inl 15
 |i,c::l=>
  if (i=9∧1<c.toNat)∨(0<i∧c.toNat=0) then .inl 1
  else if c.toNat<128 then .inr (c.toNat,1)
  else match QeF (i+1) l with
   |.inl e=>.inl e
   |.inr p=>.inr (c.toNat - 128+128*p.1,p.2+1)
def dec(l:List UInt8):Sum Nat (Nat×Nat):=QeF 0 l
def iv(l:List Int):List Value:=l.map (Value.int .i64)
theorem Kj(l:List Int):(iv l).length=l.length:=by simp [iv]
theorem Q8w(a b:List Int):iv (a++b)=iv a++iv b:=by simp [iv]
theorem Qbq(l:List Int):∀u∈iv l,u.oneCell'=true:=by
 intro u hu
 simp only[iv,List.mem_map] at hu
 obtain⟨b,_,rfl⟩:=hu
 rfl
theorem Qcy.intro{w w':World}{A:Option Addr}{n c:Nat}{bs:List UInt8}{xs:List Value}(h:w'.ownsRow w.heap.size 5 1 (.slice A n c) n xs)(hx:xs=bv bs)(hb:Below w.heap.size w w'):Qcy w bs (.returned (.slice A n c)) w':=by
 subst hx
 have hn:n=bs.length:=by have:=h.1;rw[Q5H] at this;omega
 subst hn;exact⟨A,c,rfl,h,hb⟩
theorem Qcy.as{w w':World}{A:Option Addr}{n m c:Nat}{bs:List UInt8}{xs:List Value}(h:w'.ownsRow w.heap.size 5 1 (.slice A m c) m xs)(hn:n=m)(hx:xs=bv bs)(hb:Below w.heap.size w w'):Qcy w bs (.returned (.slice A n c)) w':=by
 subst hn;exact Qcy.intro h hx hb
def sv(l:List (List UInt8)):List Value:=l.map fun p=>.string ⟨p.toArray⟩
theorem Q1R(l:List (List UInt8)):(sv l).length=l.length:=by simp [sv]
theorem K0(a b:List (List UInt8)):sv (a++b)=sv a++sv b:=by simp [sv]
theorem Q9o{w:World}{B n k:Nat}{A:Option Addr}{xs:List (List UInt8)}(h:Rd w B 1 A n (sv xs))(hk:k<n):∃(b o:Nat) (s:ByteArray),A=some ⟨b,o,none⟩∧b<B∧xs[k]? =some s.data.toList∧w.cell? ⟨b,o+k,none⟩=some (.string s):=by
 obtain⟨b,o,u,rfl,hb,hu,hc⟩:=h.at_ hk
 unfold sv at hu
 rw[List.getElem?_map] at hu
 cases e:xs[k]? with
 |none=>rw[e] at hu;cases hu
 |some p=>rw[e] at hu;simp at hu;exact⟨b,o,⟨p.toArray⟩,rfl,hb,rfl,by rw[hc,← hu]⟩
theorem Q7y{w:World}{B n k:Nat}{A:Option Addr}{xs:List Int}(h:Rd w B 1 A n (iv xs))(hk:k<n):∃b o x,A=some ⟨b,o,none⟩∧b<B∧xs[k]? =some x∧w.cell? ⟨b,o+k,none⟩=some (.int .i64 x):=by
 obtain⟨b,o,u,rfl,hb,hu,hc⟩:=h.at_ hk
 unfold iv at hu
 rw[List.getElem?_map] at hu
 cases e:xs[k]? with
 |none=>rw[e] at hu;cases hu
 |some p=>rw[e] at hu;simp at hu;exact⟨b,o,p,rfl,hb,rfl,by rw[hc,← hu]⟩
def QdI(t:Bool)(w:World)(e:Ending)(w':World):Prop:=∃n:Int,e=.returned (.int .i64 n)∧decide (0≤n)=t∧w=w'
def Zu{α:Type}[BEq α](xs:List α)(x:α):Bool:=xs.contains x
def QdH{α:Type}[BEq α](xs:List α)(x:α)(k:Value):Prop:=∃i:Nat,i≤xs.length∧k=.int .i64 (i:Int)∧Zu (xs.take i) x=false
theorem QbT{α:Type}[BEq α][LawfulBEq α]{xs:List α}{x:α}{i:Nat}(h:xs[i]? =some x):Zu xs x=true:=by
 unfold Zu
 rw[List.contains_iff_mem];exact List.mem_of_getElem? h
theorem Q9a{α:Type}[BEq α][LawfulBEq α]{xs:List α}{x y:α}{i:Nat}(h:xs[i]? =some y)(hne:¬x=y)(hl:Zu (xs.take i) x=false):Zu (xs.take (i+1)) x=false:=by
 rw[List.take_add_one,h,Option.toList_some]
 unfold Zu at*
 have h1:¬x∈xs.take i:=fun hm=>by rw[List.contains_iff_mem.2 hm] at hl;cases hl
 cases e:(xs.take i++[y]).contains x with
 |false=>rfl
 |true=>
  rw[List.contains_iff_mem,List.mem_append,List.mem_singleton] at e
  rcases e with e|e
  ·exact absurd e h1
  ·exact absurd e hne
theorem QaS{α:Type}[BEq α]{xs:List α}{x:α}{i:Nat}(h:xs.length≤i)(hl:Zu (xs.take i) x=false):Zu xs x=false:=by
 rwa [List.take_of_length_le h] at hl
theorem Q2D{w:World}{B:Nat}{A:Option Addr}{n c:Nat}{xs:List Int}{x:Int}(h:Rd w B 1 A n (iv xs))(hn:n≤9223372036854775807):Calls Tryz.prog 135 #[.slice A n c,.int .i64 x] w (QdI (Zu xs x) w):=by
 have HL:=Lib.hid (show xs.length=n by have:=h.len;rw[Kj] at this;exact this);have HR:=Lib.hid h;clear h
 go_enter Tryz.func135,Tryz.ntmps135
 go_wp2_with fail
 go_loop [8] (QdH xs x) (fun k=>n - (intOf k).toNat)
 case atStart=>exact⟨0,Nat.zero_le _,rfl,rfl⟩
 case round=>
  obtain⟨i,hi,rfl,hf⟩:=hrel;rw[HL.out] at hi;have HF:=Lib.hid hf;clear hf
  by_cases hlt:i<n
  ·obtain⟨b,o,y,rfl,hb,hy,hc⟩:=Q7y HR.out hlt;have HY:=Lib.hid hy
   have hli:(i:Int)<(n:Int):=by omega
   have h0:(0:Int)≤(i:Int):=by omega
   clear hy
   by_cases hxy:x=y
   ·subst hxy
    go_wp2_with fail
    go_ret
    exact⟨i,rfl,by rw[QbT HY.out];simp,rfl⟩
   ·have hxy':(x==y)=false:=by simpa using hxy
    have HNE:=Lib.hid hxy;clear hxy
    go_wp2_with fail
    go_round
    case rel=>exact⟨i+1,by rw[HL.out];omega,by go_num,Q9a HY.out HNE.out HF.out⟩
    case measure=>simp [intOf];omega
  ·go_wp2_with fail
   go_ret
   exact⟨-1,rfl,by rw[QaS (by rw[HL.out];omega) HF.out];rfl,rfl⟩
theorem Q0y{w:World}{B:Nat}{A:Option Addr}{n c:Nat}{xs:List Int}{x:Int}(h:Rd w B 1 A n (iv xs))(hn:n≤9223372036854775807):Calls Tryz.prog 118 #[.slice A n c,.int .i64 x] w fun e w'=>e=.returned (.bool (Zu xs x))∧w=w':=by
 go_enter Tryz.func118,Tryz.ntmps118
 go_wp2_with fail
 refine(Q2D h hn).mono ?_
 rintro e w' ⟨m,rfl,hm,rfl⟩
 have HM:=Lib.hid hm;clear hm
 go_wp2_with fail
 go_ret
 exact⟨by rw[← HM.out];rfl,rfl⟩
theorem Q2y{w:World}{B:Nat}{A:Option Addr}{n c:Nat}{xs:List (List UInt8)}{s:ByteArray}(h:Rd w B 1 A n (sv xs))(hn:n≤9223372036854775807):Calls Tryz.prog 76 #[.slice A n c,.string s] w (QdI (Zu xs s.data.toList) w):=by
 have HL:=Lib.hid (show xs.length=n by have:=h.len;rw[Q1R] at this;exact this);have HR:=Lib.hid h;clear h
 go_enter Tryz.func76,Tryz.ntmps76
 go_wp2_with fail
 go_loop [8] (QdH xs s.data.toList) (fun k=>n - (intOf k).toNat)
 case atStart=>exact⟨0,Nat.zero_le _,rfl,rfl⟩
 case round=>
  obtain⟨i,hi,rfl,hf⟩:=hrel;rw[HL.out] at hi;have HF:=Lib.hid hf;clear hf
  by_cases hlt:i<n
  ·obtain⟨b,o,y,rfl,hb,hy,hc⟩:=Q9o HR.out hlt;have HY:=Lib.hid hy
   have hli:(i:Int)<(n:Int):=by omega
   have h0:(0:Int)≤(i:Int):=by omega
   clear hy
   by_cases hxy:s=y
   ·subst hxy
    go_wp2_with fail
    go_ret
    exact⟨i,rfl,by rw[QbT HY.out];simp,rfl⟩
   ·have hne:¬s.toList=y.toList:=fun e=>hxy (by
     rw[Lib.toList_data,Lib.toList_data] at e
     obtain⟨⟨l⟩⟩:=s;obtain⟨⟨m⟩⟩:=y;simp at e;rw[e])
    have hxy':(s.toList==y.toList)=false:=by simpa using hne
    have HNE:=Lib.hid (show ¬s.data.toList=y.data.toList by rw[← Lib.toList_data,← Lib.toList_data];exact hne);clear hxy hne
    go_wp2_with fail
    go_round
    case rel=>exact⟨i+1,by rw[HL.out];omega,by go_num,Q9a HY.out HNE.out HF.out⟩
    case measure=>simp [intOf];omega
  ·go_wp2_with fail
   go_ret
   exact⟨-1,rfl,by rw[QaS (by rw[HL.out];omega) HF.out];rfl,rfl⟩
theorem Q0L{w:World}{B:Nat}{A:Option Addr}{n c:Nat}{xs:List (List UInt8)}{s:ByteArray}(h:Rd w B 1 A n (sv xs))(hn:n≤9223372036854775807):Calls Tryz.prog 92 #[.slice A n c,.string s] w fun e w'=>e=.returned (.bool (Zu xs s.data.toList))∧w=w':=by
 go_enter Tryz.func92,Tryz.ntmps92
 go_wp2_with fail
 refine(Q2y h hn).mono ?_
 rintro e w' ⟨m,rfl,hm,rfl⟩
 have HM:=Lib.hid hm;clear hm
 go_wp2_with fail
 go_ret
 exact⟨by rw[← HM.out];rfl,rfl⟩
def Small(xs:List (List UInt8)):Prop:=∀x∈xs,x.length≤9223372036854775807
theorem Rd.lit(w:World)(cs:Array Value)(e:TypeId):Rd (w.alloc (.cells cs e)) (w.heap.size+1) 1 (some ⟨w.heap.size,0,none⟩) cs.size cs.toList:=by
 refine⟨by simp,fun _=>⟨_,_,rfl,by omega,fun j u hu=>?_⟩⟩;rw[cell_of_row _ w.heap.size (0+j) cs e (0,0) (heap_alloc_new w _)]
 simpa using hu
theorem J7(w:World)(o:Obj):(w.alloc o).heap.size=w.heap.size+1:=by simp
theorem QcY{w:World}{p:Addr}{v:Value}{o:Obj}(h:w.cell? p=some v):(w.alloc o).cell? p=some v:=(World.cell?_alloc_some _ _ _ (by rw[h];rfl)).trans h
theorem X4{w w1 w2:World}(h1:Below w.heap.size w w1)(h2:Below w1.heap.size w1 w2):Below w.heap.size w w2:=h1.trans (h2.mono h1.size)
def FC(w:World)(g:Nat)(a b:Int):Prop:=
 g<w.heap.size∧w.cell? ⟨g,0,none⟩=some (.int .i64 a)∧w.cell? ⟨g,1,none⟩=some (.int .i64 b)∧w.frozen? ⟨g,0,none⟩=false∧w.frozen? ⟨g,1,none⟩=false
theorem FC.new(w:World)(a b:Int):FC (w.alloc (.cells #[.int .i64 a,.int .i64 b] 27)) w.heap.size a b:=⟨by simp,by simp,by simp,by simp,by simp⟩
theorem FC.below{w w':World}{B g:Nat}{a b:Int}(h:FC w g a b)(hb:Below B w w')(hg:g<B):FC w' g a b:=by
 obtain⟨z,c0,c1,f0,f1⟩:=h;exact⟨Nat.lt_of_lt_of_le z hb.size,(hb.cell (by exact hg)).trans c0,(hb.cell (by exact hg)).trans c1,(hb.frozen (by exact hg)).trans f0,(hb.frozen (by exact hg)).trans f1⟩
theorem FC.on{w w':World}{g:Nat}{a b:Int}(h:FC w g a b)(hb:Below w.heap.size w w'):FC w' g a b:=h.below hb h.1
theorem FC.alloc{w:World}{g:Nat}{a b:Int}(h:FC w g a b)(o:Obj):FC (w.alloc o) g a b:=h.on ((Below.refl _ _).alloc (Nat.le_refl _) o)
theorem FC.drew{w:World}{g:Nat}{a b:Int}(h:FC w g a b):FC w.drew g a b:=h
theorem FC.put{w:World}{g:Nat}{a b:Int}(h:FC w g a b)(c d:Int):FC ((w.setCell ⟨g,0,none⟩ (.int .i64 c)).setCell ⟨g,1,none⟩ (.int .i64 d)) g c d:=by
 obtain⟨z,c0,c1,f0,f1⟩:=h;refine⟨by simpa using z,?_,?_,?_,?_⟩
 ·rw[World.cell?_setCell_other _ _ _ _ (by simp)];exact World.cell?_setCell_same w ⟨g,0,none⟩ _ c0
 ·exact World.cell?_setCell_same _ ⟨g,1,none⟩ _ ((World.cell?_setCell_other w ⟨g,0,none⟩ ⟨g,1,none⟩ _ (by simp)).trans c1)
 ·rw[World.frozen?_setCell,World.frozen?_setCell];exact f0
 ·rw[World.frozen?_setCell,World.frozen?_setCell];exact f1
theorem VV(w:World)(a:Obj):Below w.heap.size w (w.alloc a):=(Below.refl _ _).alloc (Nat.le_refl _) a
theorem Kw(w:World)(a b:Obj):Below w.heap.size w ((w.alloc a).alloc b):=(VV w a).alloc (VV w a).size b
theorem Q4o(w:World)(a b c:Obj):Below w.heap.size w (((w.alloc a).alloc b).alloc c):=(Kw w a b).alloc (Kw w a b).size c
structure Rl where
 name:List UInt8
 kind:Int
 bs:List UInt8
 size:Int
 big:Bool
 mn:Int
 mx:Int
 stop:Int
 count:Int
 elem:Int
 names:List (List UInt8)
 parts:List Int
def Z7(k:Int):Bool:=Zu [3,5,9] k
def Z4(k:Int):Bool:=Zu [2,4,5] k
def Zf(k:Int):Bool:=Zu [2,3] k
def Qp(k:Int):Bool:=Zu [6,10] k
def XJ(k:Int):Bool:=Zu [6,9] k
def JZ(k:Int):Bool:=Zu [7,8] k
def inB(n a b:Int):Bool:=decide (a≤n∧n≤b)
theorem Kh{n a b:Int}(h:a≤n∧n≤b):inB n a b=true:=decide_eq_true h
theorem Q1U{n a b:Int}(h:¬(a≤n∧n≤b)):inB n a b=false:=decide_eq_false h
theorem Xl(n a b:Int)(w:World):Calls Tryz.prog 52 #[.int .i64 n,.int .i64 a,.int .i64 b] w fun e w'=>e=.returned (.bool (inB n a b))∧w=w':=by
 by_cases h1:a≤n
 ·by_cases h2:n≤b
  ·rw[Kh ⟨h1,h2⟩]
   go_enter Tryz.func52,Tryz.ntmps52
   go_wp2_with fail
   go_ret
   exact⟨rfl,rfl⟩
  ·rw[Q1U (fun h=>h2 h.2)]
   go_enter Tryz.func52,Tryz.ntmps52
   go_wp2_with fail
   go_ret
   exact⟨rfl,rfl⟩
 ·rw[Q1U (fun h=>h1 h.1)]
  go_enter Tryz.func52,Tryz.ntmps52
  go_wp2_with fail
  go_ret
  exact⟨rfl,rfl⟩
theorem YB{a0 a2 a3 a4 a5 a6 a7 a8 a9 a10 a11:Value}{k:Int}{w:World}{A:Option Addr}{n c:Nat}{ks:List Int}(h:Rd w w.heap.size 1 A n (iv ks))(hn:n≤1048576):
  Calls Tryz.prog 100 #[.agg #[a0,.int .i64 k,a2,a3,a4,a5,a6,a7,a8,a9,a10,a11],.slice A n c] w fun e w'=>e=.returned (.bool (Zu ks k))∧Below w.heap.size w w':=by
 have HR:=Lib.hid h;clear h
 go_enter Tryz.func100,Tryz.ntmps100
 go_wp2_with fail
 refine(Q0y (HR.out.below (VV _ _)) (by omega)).mono ?_
 rintro e w' ⟨rfl,rfl⟩
 go_wp2_with fail
 go_ret
 exact⟨rfl,VV _ _⟩
theorem QK{a0 a2 a3 a4 a5 a6 a7 a8 a9 a10 a11:Value}{k:Int}(w:World):
  Calls Tryz.prog 66 #[.agg #[a0,.int .i64 k,a2,a3,a4,a5,a6,a7,a8,a9,a10,a11]] w fun e w'=>e=.returned (.bool (Z7 k))∧Below w.heap.size w w':=by
 go_enter Tryz.func66,Tryz.ntmps66
 go_wp2_with fail
 refine(YB (ks:=[3,5,9]) ?_ (by decide)).mono ?_
 ·have h:=Rd.lit (w.alloc (.cells #[a0,.int .i64 k,a2,a3,a4,a5,a6,a7,a8,a9,a10,a11] 52)) #[.int .i64 3,.int .i64 5,.int .i64 9] 3;rw[J7] at h;refine Rd.more h ?_
  simp
 rintro e w2 ⟨rfl,hb2⟩
 go_wp2_with fail
 go_ret
 exact⟨rfl,X4 (Kw _ _ _) hb2⟩
theorem Xg{a0 a2 a3 a4 a5 a6 a7 a8 a9 a10 a11:Value}{k:Int}(w:World):
  Calls Tryz.prog 68 #[.agg #[a0,.int .i64 k,a2,a3,a4,a5,a6,a7,a8,a9,a10,a11]] w fun e w'=>e=.returned (.bool (Z4 k))∧Below w.heap.size w w':=by
 go_enter Tryz.func68,Tryz.ntmps68
 go_wp2_with fail
 refine(YB (ks:=[2,4,5]) ?_ (by decide)).mono ?_
 ·have h:=Rd.lit (w.alloc (.cells #[a0,.int .i64 k,a2,a3,a4,a5,a6,a7,a8,a9,a10,a11] 52)) #[.int .i64 2,.int .i64 4,.int .i64 5] 3;rw[J7] at h;refine Rd.more h ?_
  simp
 rintro e w2 ⟨rfl,hb2⟩
 go_wp2_with fail
 go_ret
 exact⟨rfl,X4 (Kw _ _ _) hb2⟩
theorem Xi{a0 a2 a3 a4 a5 a6 a7 a8 a9 a10 a11:Value}{k:Int}(w:World):
  Calls Tryz.prog 69 #[.agg #[a0,.int .i64 k,a2,a3,a4,a5,a6,a7,a8,a9,a10,a11]] w fun e w'=>e=.returned (.bool (Zf k))∧Below w.heap.size w w':=by
 go_enter Tryz.func69,Tryz.ntmps69
 go_wp2_with fail
 refine(YB (ks:=[2,3]) ?_ (by decide)).mono ?_
 ·have h:=Rd.lit (w.alloc (.cells #[a0,.int .i64 k,a2,a3,a4,a5,a6,a7,a8,a9,a10,a11] 52)) #[.int .i64 2,.int .i64 3] 3;rw[J7] at h;refine Rd.more h ?_
  simp
 rintro e w2 ⟨rfl,hb2⟩
 go_wp2_with fail
 go_ret
 exact⟨rfl,X4 (Kw _ _ _) hb2⟩
theorem Qu{a0 a2 a3 a4 a5 a6 a7 a8 a9 a10 a11:Value}{k:Int}(w:World):
  Calls Tryz.prog 70 #[.agg #[a0,.int .i64 k,a2,a3,a4,a5,a6,a7,a8,a9,a10,a11]] w fun e w'=>e=.returned (.bool (Qp k))∧Below w.heap.size w w':=by
 go_enter Tryz.func70,Tryz.ntmps70
 go_wp2_with fail
 refine(YB (ks:=[6,10]) ?_ (by decide)).mono ?_
 ·have h:=Rd.lit (w.alloc (.cells #[a0,.int .i64 k,a2,a3,a4,a5,a6,a7,a8,a9,a10,a11] 52)) #[.int .i64 6,.int .i64 10] 3;rw[J7] at h;refine Rd.more h ?_
  simp
 rintro e w2 ⟨rfl,hb2⟩
 go_wp2_with fail
 go_ret
 exact⟨rfl,X4 (Kw _ _ _) hb2⟩
theorem X7{a0 a2 a3 a4 a5 a6 a7 a8 a9 a10 a11:Value}{k:Int}(w:World):
  Calls Tryz.prog 71 #[.agg #[a0,.int .i64 k,a2,a3,a4,a5,a6,a7,a8,a9,a10,a11]] w fun e w'=>e=.returned (.bool (XJ k))∧Below w.heap.size w w':=by
 go_enter Tryz.func71,Tryz.ntmps71
 go_wp2_with fail
 refine(YB (ks:=[6,9]) ?_ (by decide)).mono ?_
 ·have h:=Rd.lit (w.alloc (.cells #[a0,.int .i64 k,a2,a3,a4,a5,a6,a7,a8,a9,a10,a11] 52)) #[.int .i64 6,.int .i64 9] 3;rw[J7] at h;refine Rd.more h ?_
  simp
 rintro e w2 ⟨rfl,hb2⟩
 go_wp2_with fail
 go_ret
 exact⟨rfl,X4 (Kw _ _ _) hb2⟩
theorem Xd{a0 a2 a3 a4 a5 a6 a7 a8 a9 a10 a11:Value}{k:Int}(w:World):
  Calls Tryz.prog 82 #[.agg #[a0,.int .i64 k,a2,a3,a4,a5,a6,a7,a8,a9,a10,a11]] w fun e w'=>e=.returned (.bool (JZ k))∧Below w.heap.size w w':=by
 go_enter Tryz.func82,Tryz.ntmps82
 go_wp2_with fail
 refine(YB (ks:=[7,8]) ?_ (by decide)).mono ?_
 ·have h:=Rd.lit (w.alloc (.cells #[a0,.int .i64 k,a2,a3,a4,a5,a6,a7,a8,a9,a10,a11] 52)) #[.int .i64 7,.int .i64 8] 3;rw[J7] at h;refine Rd.more h ?_
  simp
 rintro e w2 ⟨rfl,hb2⟩
 go_wp2_with fail
 go_ret
 exact⟨rfl,X4 (Kw _ _ _) hb2⟩
theorem Q1t{w:World}{p:Addr}{v:Value}(h:w.cell? p=some v):p.block<w.heap.size:=by
 unfold World.cell? at h
 cases hb:w.heap[p.block]? with
 |none=>rw[hb] at h;cases h
 |some o=>exact(Array.getElem?_eq_some_iff.1 hb).1
def Up(w:World):Type:={ w':World // Below w.heap.size w w' }
instance (w:World):Nonempty (Up w):=⟨⟨w,Below.refl _ _⟩⟩
def Up.w{w:World}(x:Up w):World:=x.1
theorem Up.b{w:World}(x:Up w):Below w.heap.size w x.w:=x.2
theorem Up.cell{w:World}{q:Addr}{v:Value}(h:w.cell? q=some v)(x:Up w):x.w.cell? q=some v:=(x.b.cell (Q1t h)).trans h
theorem Up.next{w w':World}(x:Up w)(h:Below x.w.heap.size x.w w'):∃y:Up w,w'=y.w:=⟨⟨w',X4 x.b h⟩,rfl⟩
theorem Up.start(w:World):∃y:Up w,w=y.w:=⟨⟨w,Below.refl _ _⟩,rfl⟩
theorem Q4g{P:Program}{ops:Array Oper}{C:World→Prop}{QQ:Act→Prop}{Q:Exit→Act→World→Prop}(hQ:∀a w,C w→QQ a→Q .normal a w):∀(l:List Oper) (a:Act) (w:World),C w→wpQuiet P ops C QQ l a→wpList P ops Q l a w:=by
 intro l
 induction l with
 |nil=>intro a w hC h;exact hQ a w hC h
 |cons o rest ih=>
  intro a w hC h
  refine wpList_step fun K hK=>?_
  unfold wpQuiet at h
  by_cases hw:Region.wanted o (yielded ops a.tmps)=true
  ·rw[if_pos hw] at h ⊢;exact Oper.wp_of_quiet hC (fun a' w' hC' h'=>hK a' w' (ih a' w' hC' h')) h
  ·rw[if_neg hw] at h ⊢;exact hK _ _ (ih _ w hC h)
theorem Calls.up{P:Program}{f:FuncId}{args:Array Value}{w:World}{x:Up w}{v:Value}(h:Calls P f args x.w fun e w'=>e=.returned v∧Below x.w.heap.size x.w w'):Calls P f args x.w fun e w''=>e=.returned v∧∃y:Up w,w''=y.w:=
 h.mono fun _ w' ⟨he,hb⟩=>⟨he,⟨w',X4 x.b hb⟩,rfl⟩
theorem Q7x{P:Program}{Q:Exit→Act→World→Prop}{id:Nat}{a:Act}{w:World}{l:List Oper}(y:Up w)
  (h:wpQuiet P l.toArray (fun w'=>∃x:Up w,w'=x.w) (fun a'=>∀w',(∃x:Up w,w'=x.w)→Q .normal a' w') l a):(Code.region id l.toArray false).wp P Q a y.w:=
 wp_region_lit (Q4g (fun a w' hC h=>h w' hC) l a y.w ⟨y,rfl⟩ h)
theorem Q9R{P:Program}{ops:Array Oper}{C:World→Prop}{Q:Act→Prop}(J:Act→Prop):∀(n:Nat) (l:List Oper) (a:Act),wpQuiet P ops C J (l.take n) a→(∀a',J a'→wpQuiet P ops C Q (l.drop n) a')→wpQuiet P ops C Q l a:=by
 intro n
 induction n with
 |zero=>intro l a h1 h2;rw[List.take_zero] at h1;rw[List.drop_zero] at h2;exact h2 a h1
 |succ n ih=>
  intro l a h1 h2
  cases l with
  |nil=>exact h2 a h1
  |cons o l=>
   unfold wpQuiet at h1 ⊢
   rw[List.take_succ_cons] at h1
   split
   ·rename_i hw
    simp only[hw,if_true] at h1
    exact Oper.quiet_mono (fun a' h'=>ih l a' h' h2) h1
   ·rename_i hw
    simp only[hw] at h1
    exact ih l _ h1 h2
theorem Zm{w:World}{b0 b1 b2 b3 b4 b5 b6 b7 b8 b9 b10 b11:Value}:∀(j:Nat) (u:Value),[b0,b1,b2,b3,b4,b5,b6,b7,b8,b9,b10,b11][j]? =some u→(w.alloc (.cells #[b0,b1,b2,b3,b4,b5,b6,b7,b8,b9,b10,b11] 52)).cell? ⟨w.heap.size,j,none⟩=some u:=by
 intro j u hu;rw[cell_of_row _ w.heap.size j _ 52 (0,0) (heap_alloc_new w _)]
 simpa using hu
def Q0i(w:World)(B:Nat)(r:Rl)(sb sn sp:Value):Prop:=
 ∃Ab nb cb An nn cn Ap np cp,sb=.slice Ab nb cb∧sn=.slice An nn cn∧sp=.slice Ap np cp∧nb≤cb∧nn≤cn∧np≤cp∧Rd w B 1 Ab nb (bv r.bs)∧Rd w B 1 An nn (sv r.names)∧Rd w B 1 Ap np (iv r.parts)
def K4(w:World)(b o:Nat)(r:Rl)(sb sn sp:Value):Prop:=
 w.cell? ⟨b,o,none⟩=some (.string ⟨r.name.toArray⟩)∧w.cell? ⟨b,o+1,none⟩=some (.int .i64 r.kind)∧w.cell? ⟨b,o+2,none⟩=some sb∧w.cell? ⟨b,o+3,none⟩=some (.int .i64 r.size)∧w.cell? ⟨b,o+4,none⟩=some (.bool r.big)∧w.cell? ⟨b,o+5,none⟩=some (.int .i64 r.mn)∧
 w.cell? ⟨b,o+6,none⟩=some (.int .i64 r.mx)∧w.cell? ⟨b,o+7,none⟩=some (.int .i64 r.stop)∧w.cell? ⟨b,o+8,none⟩=some (.int .i64 r.count)∧w.cell? ⟨b,o+9,none⟩=some (.int .i64 r.elem)∧w.cell? ⟨b,o+10,none⟩=some sn∧w.cell? ⟨b,o+11,none⟩=some sp
def Qec(w:World)(B:Nat)(v:Value)(r:Rl):Prop:=
 ∃sb sn sp,v=.agg #[.string ⟨r.name.toArray⟩,.int .i64 r.kind,sb,.int .i64 r.size,.bool r.big,.int .i64 r.mn,.int .i64 r.mx,.int .i64 r.stop,.int .i64 r.count,.int .i64 r.elem,sn,sp]∧Q0i w B r sb sn sp
def Xq(w:World)(B:Nat)(A:Option Addr)(n:Nat)(F:List Rl):Prop:=
 F.length=n∧(0<n→∃b o,A=some ⟨b,o,none⟩∧b<B∧∀i r,F[i]? =some r→∃sb sn sp,K4 w b (o+i*12) r sb sn sp∧Q0i w B r sb sn sp)
theorem Q0i.below{w w':World}{B:Nat}{r:Rl}{sb sn sp:Value}(h:Q0i w B r sb sn sp)(hb:Below B w w'):Q0i w' B r sb sn sp:=by
 obtain⟨Ab,nb,cb,An,nn,cn,Ap,np,cp,h1,h2,h3,h4,h5,h6,h7,h8,h9⟩:=h;exact⟨Ab,nb,cb,An,nn,cn,Ap,np,cp,h1,h2,h3,h4,h5,h6,h7.below hb,h8.below hb,h9.below hb⟩
theorem Q0i.more{w:World}{B B':Nat}{r:Rl}{sb sn sp:Value}(h:Q0i w B r sb sn sp)(hB:B≤B'):Q0i w B' r sb sn sp:=by
 obtain⟨Ab,nb,cb,An,nn,cn,Ap,np,cp,h1,h2,h3,h4,h5,h6,h7,h8,h9⟩:=h;exact⟨Ab,nb,cb,An,nn,cn,Ap,np,cp,h1,h2,h3,h4,h5,h6,h7.more hB,h8.more hB,h9.more hB⟩
theorem Q0i.on{w w':World}{r:Rl}{sb sn sp:Value}(h:Q0i w w.heap.size r sb sn sp)(hb:Below w.heap.size w w'):Q0i w' w'.heap.size r sb sn sp:=(h.below hb).more hb.size
theorem Qec.on{w w':World}{v:Value}{r:Rl}(h:Qec w w.heap.size v r)(hb:Below w.heap.size w w'):Qec w' w'.heap.size v r:=by
 obtain⟨sb,sn,sp,e,h⟩:=h;exact⟨sb,sn,sp,e,h.on hb⟩
theorem K4.below{w w':World}{B b o:Nat}{r:Rl}{sb sn sp:Value}(h:K4 w b o r sb sn sp)(hb:Below B w w')(hB:b<B):K4 w' b o r sb sn sp:=by
 obtain⟨h0,h1,h2,h3,h4,h5,h6,h7,h8,h9,h10,h11⟩:=h;exact⟨(hb.cell (by exact hB)).trans h0,(hb.cell (by exact hB)).trans h1,(hb.cell (by exact hB)).trans h2,(hb.cell (by exact hB)).trans h3,(hb.cell (by exact hB)).trans h4,(hb.cell (by exact hB)).trans h5,(hb.cell (by exact hB)).trans h6,(hb.cell (by exact hB)).trans h7,(hb.cell (by exact hB)).trans h8,(hb.cell (by exact hB)).trans h9,(hb.cell (by exact hB)).trans h10,(hb.cell (by exact hB)).trans h11⟩
theorem Xq.on{w w':World}{A:Option Addr}{n:Nat}{F:List Rl}(h:Xq w w.heap.size A n F)(hb:Below w.heap.size w w'):Xq w' w'.heap.size A n F:=
 ⟨h.1,fun h0=>by
  obtain⟨b,o,e,hB,hc⟩:=h.2 h0;refine⟨b,o,e,Nat.lt_of_lt_of_le hB hb.size,fun i r hr=>?_⟩;obtain⟨sb,sn,sp,h1,h2⟩:=hc i r hr
  exact⟨sb,sn,sp,h1.below hb hB,h2.on hb⟩⟩
theorem Xq.at_{w:World}{B:Nat}{A:Option Addr}{n i:Nat}{F:List Rl}(h:Xq w B A n F)(hi:i<n):∃b o r sb sn sp,A=some ⟨b,o,none⟩∧b<B∧F[i]? =some r∧K4 w b (o+i*12) r sb sn sp∧Q0i w B r sb sn sp:=by
 obtain⟨b,o,e,hB,hc⟩:=h.2 (by omega)
 have hlen:i<F.length:=by rw[h.1];exact hi
 have hr:F[i]? =some F[i]:=List.getElem?_eq_getElem hlen;obtain⟨sb,sn,sp,h1,h2⟩:=hc i _ hr;exact⟨b,o,_,sb,sn,sp,e,hB,hr,h1,h2⟩
def Xa(F:List Rl)(s:List UInt8):Int:=match F.findIdx? (fun r=>r.name==s) with|some i=>(i:Int)|none=>-1
def QdJ(F:List Rl)(s:List UInt8)(w:World)(e:Ending)(w':World):Prop:=e=.returned (.int .i64 (Xa F s))∧Below w.heap.size w w'
def QeP(F:List Rl)(s:List UInt8)(w:World)(k:Value)(wr:World):Prop:=∃i:Nat,i≤F.length∧k=.int .i64 (i:Int)∧(∀j r,j<i→F[j]? =some r→¬r.name=s)∧Below w.heap.size w wr
theorem Q1T{F:List Rl}{s:List UInt8}{i:Nat}{r:Rl}(h:F[i]? =some r)(hn:r.name=s)(hl:∀j r,j<i→F[j]? =some r→¬r.name=s):Xa F s=(i:Int):=by
 unfold Xa
 have:F.findIdx? (fun r=>r.name==s)=some i:=by
  rw[List.findIdx?_eq_some_iff_getElem];obtain⟨h1,h2⟩:=List.getElem?_eq_some_iff.1 h;refine⟨h1,by rw[h2];simpa using hn,fun j hj=>?_⟩;have hj':F[j]? =some F[j]:=List.getElem?_eq_getElem (by omega)
  simpa using hl j _ hj hj'
 rw[this]
theorem Q3n{F:List Rl}{s:List UInt8}(hl:∀j r,j<F.length→F[j]? =some r→¬r.name=s):Xa F s=-1:=by
 unfold Xa
 have:F.findIdx? (fun r=>r.name==s)=none:=by
  rw[List.findIdx?_eq_none_iff];intro r hr;obtain⟨j,hj,e⟩:=List.mem_iff_getElem.1 hr;have:=hl j r hj (by rw[List.getElem?_eq_getElem hj,e])
  simpa using this
 rw[this]
theorem Q4l{a1 a2 a3 a4 a5 a6 a7 a8 a9 a10 a11:Value}{y s:ByteArray}{g:Nat}(w:World)(hg:w.cell? ⟨g,0,none⟩=some (.string s)):
  Calls Tryz.prog 113 #[.agg #[.string y,a1,a2,a3,a4,a5,a6,a7,a8,a9,a10,a11],.pointer (some ⟨g,0,none⟩)] w fun e w'=>e=.returned (.bool (y.toList==s.toList))∧Below w.heap.size w w':=by
 have hg':=fun ob=>QcY (o:=ob) hg
 go_enter Tryz.func113,Tryz.ntmps113
 go_wp2_with fail
 go_ret
 exact⟨rfl,VV _ _⟩
theorem Qa4{y s:ByteArray}(h:y.data.toList=s.data.toList):y=s:=by
 obtain⟨⟨l⟩⟩:=y;obtain⟨⟨m⟩⟩:=s
 simp at h
 rw[h]
set_option maxRecDepth 100000 in
set_option maxHeartbeats 1000000 in
theorem Q20{w:World}{A:Option Addr}{n c g:Nat}{F:List Rl}{s:ByteArray}(h:Xq w w.heap.size A n F)(hn:n≤1048576)(hg:w.cell? ⟨g,0,none⟩=some (.string s)):
  Calls Tryz.prog 112 #[.slice A n c,.func (.func 113) #[] #[.pointer (some ⟨g,0,none⟩)]] w (QdJ F s.data.toList w):=by
 have HL:=Lib.hid h.1;have HR:=Lib.hid h;have HG:=Lib.hid hg;clear h hg
 go_enter Tryz.func112,Tryz.ntmps112
 go_wp2_with fail
 go_loopw [8] (QeP F s.data.toList w) (fun k _=>n - (intOf k).toNat)
 case atStart=>exact⟨0,Nat.zero_le _,rfl,fun j r hj=>absurd hj (by omega),Below.refl _ _⟩
 case round=>
  obtain⟨i,hi,rfl,hf,hbw⟩:=hrel;rw[HL.out] at hi;have HF:=Lib.hid hf;have HB:=Lib.hid hbw;clear hf hbw
  by_cases hlt:i<n
  ·obtain⟨b,o,r,sb,sn,sp,rfl,hb,hr,hcs,hrl⟩:=HR.out.at_ hlt;have HRR:=Lib.hid hr;obtain⟨c0,c1,c2,c3,c4,c5,c6,c7,c8,c9,c10,c11⟩:=hcs.below HB.out hb
   have hli:(i:Int)<(n:Int):=by omega
   have h0:(0:Int)≤(i:Int):=by omega
   clear hr hcs hrl
   go_wp2_with fail
   refine(Q4l _ (Up.cell HG.out ⟨_,HB.out⟩)).mono ?_
   rintro e w2 ⟨rfl,hb2⟩
   have HB2:=Lib.hid (X4 HB.out hb2);clear hb2 c0 c1 c2 c3 c4 c5 c6 c7 c8 c9 c10 c11
   by_cases hnm:r.name=s.data.toList
   ·have hx:((⟨r.name.toArray⟩:ByteArray).toList==s.toList)=true:=by
     rw[Lib.toList_data,Lib.toList_data];simpa using hnm
    rw[hx];have HE:=Lib.hid hnm;clear hx hnm
    go_wp2_with fail
    go_ret
    exact⟨by rw[Q1T HRR.out HE.out HF.out];rfl,HB2.out⟩
   ·have hx:((⟨r.name.toArray⟩:ByteArray).toList==s.toList)=false:=by
     rw[Lib.toList_data,Lib.toList_data];simpa using hnm
    rw[hx];have HE:=Lib.hid hnm;clear hx hnm
    go_wp2_with fail
    go_roundw
    case rel=>exact⟨i+1,by rw[HL.out];omega,by go_num,fun j r' hj hr'=>by
     by_cases hji:j=i
     ·subst hji;have:=HRR.out;rw[hr'] at this
      cases this
      exact HE.out
     ·exact HF.out j r' (by omega) hr',HB2.out⟩
    case measure=>simp [intOf];omega
  ·go_wp2_with fail
   go_ret
   exact⟨by rw[Q3n (fun j r hj=>HF.out j r (by rw[HL.out] at hj;omega))];rfl,HB.out⟩
theorem Zx{w:World}{A:Option Addr}{n c:Nat}{F:List Rl}{s:ByteArray}(h:Xq w w.heap.size A n F)(hn:n≤1048576):
  Calls Tryz.prog 84 #[.slice A n c,.string s] w (QdJ F s.data.toList w):=by
 have HR:=Lib.hid h;clear h
 go_enter Tryz.func84,Tryz.ntmps84
 go_wp2_with fail
 refine(Q20 (s:=s) (g:=w.heap.size) (HR.out.on (VV _ _)) hn (by simp)).mono ?_
 rintro e w' ⟨rfl,hb⟩
 go_wp2_with fail
 go_ret
 exact⟨rfl,X4 (VV _ _) hb⟩
section
variable {P:Program}{ops:Array Oper}{C:World→Prop}{Q:Act→Prop}{o:Oper}{rest:List Oper}{a:Act}
theorem Qe5(hw:Region.wanted o (yielded ops a.tmps)=false)(h:wpQuiet P ops C Q rest (a.put o.dst undef)):wpQuiet P ops C Q (o::rest) a:=by
 unfold wpQuiet
 rw[hw];exact h
theorem Yj{v:Value}(hw:Region.wanted o (yielded ops a.tmps)=true)(hv:∀w,C w→(execOp a.eval o).run P w=.ok (.value v) w)(h:wpQuiet P ops C Q rest (a.put o.dst v)):wpQuiet P ops C Q (o::rest) a:=by
 unfold wpQuiet
 rw[if_pos hw];exact⟨v,fun w hC=>by unfold Oper.quietAt;rw[hv w hC];exact⟨rfl,rfl⟩,h⟩
theorem Qe4{f:FuncId}{args:Array Value}{v:Value}(hw:Region.wanted o (yielded ops a.tmps)=true)(hv:∀w,C w→(execOp a.eval o).run P w=.ok (.enter f args) w)(hc:∀w,C w→Calls P f args w fun e w''=>e=.returned v∧C w'')(h:wpQuiet P ops C Q rest (a.put o.dst v)):wpQuiet P ops C Q (o::rest) a:=by
 unfold wpQuiet
 rw[if_pos hw];exact⟨v,fun w hC=>by unfold Oper.quietAt;rw[hv w hC];exact⟨rfl,hc w hC⟩,h⟩
theorem Q9n{ρ:Operand→Value}{x:Operand}{v:Value}(ho:o.op=.move x)(hx:ρ x=v)(w:World):(execOp ρ o).run P w=.ok (.value (v)) w:=by
 simp only[execOp,ho,hx]
 rfl
theorem QdY{x:Operand}{v:Value}(ho:o.op=.move x)(hw:Region.wanted o (yielded ops a.tmps)=true)(hx:a.eval x=v)(h:wpQuiet P ops C Q rest (a.put o.dst v)):wpQuiet P ops C Q (o::rest) a:=
 Yj hw (fun w _=>Q9n ho hx w) h
theorem Q4w{ρ:Operand→Value}{x:Operand}{v:Value}(ho:o.op=.assign x)(hx:ρ x=v)(w:World):(execOp ρ o).run P w=.ok (.value (v)) w:=by
 simp only[execOp,ho,hx]
 rfl
theorem Qb8{x:Operand}{v:Value}(ho:o.op=.assign x)(hw:Region.wanted o (yielded ops a.tmps)=true)(hx:a.eval x=v)(h:wpQuiet P ops C Q rest (a.put o.dst v)):wpQuiet P ops C Q (o::rest) a:=
 Yj hw (fun w _=>Q4w ho hx w) h
theorem Q2k{ρ:Operand→Value}{c x y:Operand}{v:Value}(ho:o.op=.pick c x y)(hc:ρ c=.bool true)(hx:ρ x=v)(w:World):(execOp ρ o).run P w=.ok (.value (v)) w:=by
 simp [execOp,ho,hx,hc,go_sem]
theorem Q8j{c x y:Operand}{v:Value}(ho:o.op=.pick c x y)(hw:Region.wanted o (yielded ops a.tmps)=true)(hc:a.eval c=.bool true)(hx:a.eval x=v)(h:wpQuiet P ops C Q rest (a.put o.dst v)):wpQuiet P ops C Q (o::rest) a:=
 Yj hw (fun w _=>Q2k ho hc hx w) h
theorem Q3Q{ρ:Operand→Value}{c x y:Operand}{v:Value}(ho:o.op=.pick c x y)(hc:ρ c=.bool false)(hx:ρ y=v)(w:World):(execOp ρ o).run P w=.ok (.value (v)) w:=by
 simp [execOp,ho,hx,hc,go_sem]
theorem QaE{c x y:Operand}{v:Value}(ho:o.op=.pick c x y)(hw:Region.wanted o (yielded ops a.tmps)=true)(hc:a.eval c=.bool false)(hx:a.eval y=v)(h:wpQuiet P ops C Q rest (a.put o.dst v)):wpQuiet P ops C Q (o::rest) a:=
 Yj hw (fun w _=>Q3Q ho hc hx w) h
theorem Qc3{ρ:Operand→Value}{x:Operand}{t:TypeId}{b b':Bool}(ho:o.op=.unOp .not t x)(hx:ρ x=.bool b)(hb:(!b)=b')(w:World):(execOp ρ o).run P w=.ok (.value ((.bool b'))) w:=by
 subst hb
 simp [execOp,ho,hx,go_sem]
theorem Qfj{x:Operand}{t:TypeId}{b b':Bool}(ho:o.op=.unOp .not t x)(hw:Region.wanted o (yielded ops a.tmps)=true)(hx:a.eval x=.bool b)(hb:(!b)=b')(h:wpQuiet P ops C Q rest (a.put o.dst (.bool b'))):wpQuiet P ops C Q (o::rest) a:=
 Yj hw (fun w _=>Qc3 ho hx hb w) h
theorem Qcf{ρ:Operand→Value}{x y:Operand}{t t':TypeId}{k:IntKind}{m n:Int}{b:Bool}(ho:o.op=.binOp .eql t x y t')(hx:ρ x=.int k m)(hy:ρ y=.int k n)(hb:(m==n)=b)(w:World):(execOp ρ o).run P w=.ok (.value ((.bool b))) w:=by
 subst hb
 simp [execOp,ho,hx,hy,go_sem]
theorem Qff{x y:Operand}{t t':TypeId}{k:IntKind}{m n:Int}{b:Bool}(ho:o.op=.binOp .eql t x y t')(hw:Region.wanted o (yielded ops a.tmps)=true)(hx:a.eval x=.int k m)(hy:a.eval y=.int k n)(hb:(m==n)=b)(h:wpQuiet P ops C Q rest (a.put o.dst (.bool b))):wpQuiet P ops C Q (o::rest) a:=
 Yj hw (fun w _=>Qcf ho hx hy hb w) h
theorem QdW{ρ:Operand→Value}{x y:Operand}{t t':TypeId}{k:IntKind}{m n:Int}{b:Bool}(ho:o.op=.binOp .neq t x y t')(hx:ρ x=.int k m)(hy:ρ y=.int k n)(hb:(m != n)=b)(w:World):(execOp ρ o).run P w=.ok (.value ((.bool b))) w:=by
 subst hb
 simp [execOp,ho,hx,hy,go_sem]
theorem Qeg{ρ:Operand→Value}{x y:Operand}{t t':TypeId}{k:IntKind}{m n:Int}{b:Bool}(ho:o.op=.binOp .gtr t x y t')(hx:ρ x=.int k m)(hy:ρ y=.int k n)(hb:decide (n<m)=b)(w:World):(execOp ρ o).run P w=.ok (.value ((.bool b))) w:=by
 subst hb
 simp [execOp,ho,hx,hy,go_sem]
theorem QaV{ρ:Operand→Value}{x:Operand}{t:TypeId}{A:Option Addr}{n c:Nat}(ho:o.op=.call { callee:=.builtin .len,args:=#[x],argTypes:=#[t] })(ht:∃e,P.underlying t=some (.slice e))(hx:ρ x=.slice A n c)(w:World):(execOp ρ o).run P w=.ok (.value ((.int .i64 (n:Int)))) w:=by
 obtain⟨e,he⟩:=ht
 simp [execOp,ho,hx,he,go_sem]
theorem QeL{x:Operand}{t:TypeId}{A:Option Addr}{n c:Nat}(ho:o.op=.call { callee:=.builtin .len,args:=#[x],argTypes:=#[t] })(ht:∃e,P.underlying t=some (.slice e))(hw:Region.wanted o (yielded ops a.tmps)=true)(hx:a.eval x=.slice A n c)(h:wpQuiet P ops C Q rest (a.put o.dst (.int .i64 (n:Int)))):wpQuiet P ops C Q (o::rest) a:=
 Yj hw (fun w _=>QaV ho ht hx w) h
end
section
variable {ops:Array Oper}{C:World→Prop}{Q:Act→Prop}{o:Oper}{rest:List Oper}{a:Act}
theorem Qbo{ρ:Operand→Value}{x:Operand}{b i:Nat}(ho:o.op=.fieldAddr 52 x i)(hi:i<12)(hx:ρ x=.pointer (some ⟨b,0,none⟩))(w:World):(execOp ρ o).run Tryz.prog w=.ok (.value ((.pointer (some ⟨b,i,none⟩)))) w:=by
 rcases (show i=0∨i=1∨i=2∨i=3∨i=4∨i=5∨i=6∨i=7∨i=8∨i=9∨i=10∨i=11 by omega) with rfl|rfl|rfl|rfl|rfl|rfl|rfl|rfl|rfl|rfl|rfl|rfl<;>simp [execOp,ho,hx,go_sem]
theorem Qdv{x:Operand}{b i:Nat}(ho:o.op=.fieldAddr 52 x i)(hi:i<12)(hw:Region.wanted o (yielded ops a.tmps)=true)(hx:a.eval x=.pointer (some ⟨b,0,none⟩))(h:wpQuiet Tryz.prog ops C Q rest (a.put o.dst (.pointer (some ⟨b,i,none⟩)))):wpQuiet Tryz.prog ops C Q (o::rest) a:=
 Yj hw (fun w _=>Qbo ho hi hx w) h
theorem Q6n{ρ:Operand→Value}{x:Operand}{p:Addr}{v:Value}(ho:o.op=.load 3 x)(hx:ρ x=.pointer (some p))(w:World)(hc:w.cell? p=some v):(execOp ρ o).run Tryz.prog w=.ok (.value v) w:=by
 obtain⟨b,n,s⟩:=p
 simp [execOp,ho,hx,hc,go_sem]
theorem Q7O{x:Operand}{p:Addr}{v:Value}(ho:o.op=.load 3 x)(hw:Region.wanted o (yielded ops a.tmps)=true)(hx:a.eval x=.pointer (some p))(hc:∀w,C w→w.cell? p=some v)(h:wpQuiet Tryz.prog ops C Q rest (a.put o.dst v)):wpQuiet Tryz.prog ops C Q (o::rest) a:=
 Yj hw (fun w hC=>Q6n ho hx w (hc w hC)) h
theorem Q5I{ρ:Operand→Value}{x:Operand}{p:Addr}{v:Value}(ho:o.op=.load 4 x)(hx:ρ x=.pointer (some p))(w:World)(hc:w.cell? p=some v):(execOp ρ o).run Tryz.prog w=.ok (.value v) w:=by
 obtain⟨b,n,s⟩:=p
 simp [execOp,ho,hx,hc,go_sem]
theorem Q6N{x:Operand}{p:Addr}{v:Value}(ho:o.op=.load 4 x)(hw:Region.wanted o (yielded ops a.tmps)=true)(hx:a.eval x=.pointer (some p))(hc:∀w,C w→w.cell? p=some v)(h:wpQuiet Tryz.prog ops C Q rest (a.put o.dst v)):wpQuiet Tryz.prog ops C Q (o::rest) a:=
 Yj hw (fun w hC=>Q5I ho hx w (hc w hC)) h
theorem Q4h{ρ:Operand→Value}{x:Operand}{p:Addr}{v:Value}(ho:o.op=.load 49 x)(hx:ρ x=.pointer (some p))(w:World)(hc:w.cell? p=some v):(execOp ρ o).run Tryz.prog w=.ok (.value v) w:=by
 obtain⟨b,n,s⟩:=p
 simp [execOp,ho,hx,hc,go_sem]
theorem Q5V{x:Operand}{p:Addr}{v:Value}(ho:o.op=.load 49 x)(hw:Region.wanted o (yielded ops a.tmps)=true)(hx:a.eval x=.pointer (some p))(hc:∀w,C w→w.cell? p=some v)(h:wpQuiet Tryz.prog ops C Q rest (a.put o.dst v)):wpQuiet Tryz.prog ops C Q (o::rest) a:=
 Yj hw (fun w hC=>Q4h ho hx w (hc w hC)) h
theorem Q2A{ρ:Operand→Value}{x:Operand}{p:Addr}{v:Value}(ho:o.op=.load 50 x)(hx:ρ x=.pointer (some p))(w:World)(hc:w.cell? p=some v):(execOp ρ o).run Tryz.prog w=.ok (.value v) w:=by
 obtain⟨b,n,s⟩:=p
 simp [execOp,ho,hx,hc,go_sem]
theorem Q3A{x:Operand}{p:Addr}{v:Value}(ho:o.op=.load 50 x)(hw:Region.wanted o (yielded ops a.tmps)=true)(hx:a.eval x=.pointer (some p))(hc:∀w,C w→w.cell? p=some v)(h:wpQuiet Tryz.prog ops C Q rest (a.put o.dst v)):wpQuiet Tryz.prog ops C Q (o::rest) a:=
 Yj hw (fun w hC=>Q2A ho hx w (hc w hC)) h
theorem Q5s{ρ:Operand→Value}{x:Operand}{p:Addr}{v:Value}(ho:o.op=.load 30 x)(hx:ρ x=.pointer (some p))(w:World)(hc:w.cell? p=some v):(execOp ρ o).run Tryz.prog w=.ok (.value v) w:=by
 obtain⟨b,n,s⟩:=p
 simp [execOp,ho,hx,hc,go_sem]
theorem Q7j{x:Operand}{p:Addr}{v:Value}(ho:o.op=.load 30 x)(hw:Region.wanted o (yielded ops a.tmps)=true)(hx:a.eval x=.pointer (some p))(hc:∀w,C w→w.cell? p=some v)(h:wpQuiet Tryz.prog ops C Q rest (a.put o.dst v)):wpQuiet Tryz.prog ops C Q (o::rest) a:=
 Yj hw (fun w hC=>Q5s ho hx w (hc w hC)) h
theorem Q5d{ρ:Operand→Value}{x:Operand}{b:Nat}{v0 v1 v2 v3 v4 v5 v6 v7 v8 v9 v10 v11:Value}(ho:o.op=.load 52 x)(hx:ρ x=.pointer (some ⟨b,0,none⟩))(w:World)(h0:w.cell? ⟨b,0,none⟩=some v0)(h1:w.cell? ⟨b,1,none⟩=some v1)(h2:w.cell? ⟨b,2,none⟩=some v2)(h3:w.cell? ⟨b,3,none⟩=some v3)(h4:w.cell? ⟨b,4,none⟩=some v4)(h5:w.cell? ⟨b,5,none⟩=some v5)(h6:w.cell? ⟨b,6,none⟩=some v6)(h7:w.cell? ⟨b,7,none⟩=some v7)(h8:w.cell? ⟨b,8,none⟩=some v8)(h9:w.cell? ⟨b,9,none⟩=some v9)(h10:w.cell? ⟨b,10,none⟩=some v10)(h11:w.cell? ⟨b,11,none⟩=some v11):
  (execOp ρ o).run Tryz.prog w=.ok (.value (.agg #[v0,v1,v2,v3,v4,v5,v6,v7,v8,v9,v10,v11])) w:=by
 simp [execOp,ho,hx,h0,h1,h2,h3,h4,h5,h6,h7,h8,h9,h10,h11,go_sem]
def YW(C:World→Prop)(b:Nat)(v0 v1 v2 v3 v4 v5 v6 v7 v8 v9 v10 v11:Value):Prop:=∀w,C w→∀(j:Nat) (u:Value),[v0,v1,v2,v3,v4,v5,v6,v7,v8,v9,v10,v11][j]? =some u→w.cell? ⟨b,j,none⟩=some u
theorem Q6l{x:Operand}{b:Nat}{v0 v1 v2 v3 v4 v5 v6 v7 v8 v9 v10 v11:Value}(hr:YW C b v0 v1 v2 v3 v4 v5 v6 v7 v8 v9 v10 v11)(ho:o.op=.load 52 x)(hw:Region.wanted o (yielded ops a.tmps)=true)(hx:a.eval x=.pointer (some ⟨b,0,none⟩))(h:wpQuiet Tryz.prog ops C Q rest (a.put o.dst (.agg #[v0,v1,v2,v3,v4,v5,v6,v7,v8,v9,v10,v11]))):wpQuiet Tryz.prog ops C Q (o::rest) a:=
 Yj hw (fun w hC=>Q5d ho hx w (hr w hC 0 _ rfl) (hr w hC 1 _ rfl) (hr w hC 2 _ rfl) (hr w hC 3 _ rfl) (hr w hC 4 _ rfl) (hr w hC 5 _ rfl) (hr w hC 6 _ rfl) (hr w hC 7 _ rfl) (hr w hC 8 _ rfl) (hr w hC 9 _ rfl) (hr w hC 10 _ rfl) (hr w hC 11 _ rfl)) h
theorem Q87{x:Operand}{b i:Nat}{v:Value}{v0 v1 v2 v3 v4 v5 v6 v7 v8 v9 v10 v11:Value}(hr:YW C b v0 v1 v2 v3 v4 v5 v6 v7 v8 v9 v10 v11)(ho:o.op=.load 3 x)(hw:Region.wanted o (yielded ops a.tmps)=true)(hx:a.eval x=.pointer (some ⟨b,i,none⟩))(hv:[v0,v1,v2,v3,v4,v5,v6,v7,v8,v9,v10,v11][i]? =some v)(h:wpQuiet Tryz.prog ops C Q rest (a.put o.dst v)):wpQuiet Tryz.prog ops C Q (o::rest) a:=
 Q7O ho hw hx (fun w hC=>hr w hC i v hv) h
theorem Q6P{x:Operand}{b i:Nat}{v:Value}{v0 v1 v2 v3 v4 v5 v6 v7 v8 v9 v10 v11:Value}(hr:YW C b v0 v1 v2 v3 v4 v5 v6 v7 v8 v9 v10 v11)(ho:o.op=.load 4 x)(hw:Region.wanted o (yielded ops a.tmps)=true)(hx:a.eval x=.pointer (some ⟨b,i,none⟩))(hv:[v0,v1,v2,v3,v4,v5,v6,v7,v8,v9,v10,v11][i]? =some v)(h:wpQuiet Tryz.prog ops C Q rest (a.put o.dst v)):wpQuiet Tryz.prog ops C Q (o::rest) a:=
 Q6N ho hw hx (fun w hC=>hr w hC i v hv) h
theorem Q5x{x:Operand}{b i:Nat}{v:Value}{v0 v1 v2 v3 v4 v5 v6 v7 v8 v9 v10 v11:Value}(hr:YW C b v0 v1 v2 v3 v4 v5 v6 v7 v8 v9 v10 v11)(ho:o.op=.load 49 x)(hw:Region.wanted o (yielded ops a.tmps)=true)(hx:a.eval x=.pointer (some ⟨b,i,none⟩))(hv:[v0,v1,v2,v3,v4,v5,v6,v7,v8,v9,v10,v11][i]? =some v)(h:wpQuiet Tryz.prog ops C Q rest (a.put o.dst v)):wpQuiet Tryz.prog ops C Q (o::rest) a:=
 Q5V ho hw hx (fun w hC=>hr w hC i v hv) h
theorem Q3u{x:Operand}{b i:Nat}{v:Value}{v0 v1 v2 v3 v4 v5 v6 v7 v8 v9 v10 v11:Value}(hr:YW C b v0 v1 v2 v3 v4 v5 v6 v7 v8 v9 v10 v11)(ho:o.op=.load 50 x)(hw:Region.wanted o (yielded ops a.tmps)=true)(hx:a.eval x=.pointer (some ⟨b,i,none⟩))(hv:[v0,v1,v2,v3,v4,v5,v6,v7,v8,v9,v10,v11][i]? =some v)(h:wpQuiet Tryz.prog ops C Q rest (a.put o.dst v)):wpQuiet Tryz.prog ops C Q (o::rest) a:=
 Q3A ho hw hx (fun w hC=>hr w hC i v hv) h
theorem Q6D{x:Operand}{b i:Nat}{v:Value}{v0 v1 v2 v3 v4 v5 v6 v7 v8 v9 v10 v11:Value}(hr:YW C b v0 v1 v2 v3 v4 v5 v6 v7 v8 v9 v10 v11)(ho:o.op=.load 30 x)(hw:Region.wanted o (yielded ops a.tmps)=true)(hx:a.eval x=.pointer (some ⟨b,i,none⟩))(hv:[v0,v1,v2,v3,v4,v5,v6,v7,v8,v9,v10,v11][i]? =some v)(h:wpQuiet Tryz.prog ops C Q rest (a.put o.dst v)):wpQuiet Tryz.prog ops C Q (o::rest) a:=
 Q7j ho hw hx (fun w hC=>hr w hC i v hv) h
theorem Qfb{f:FuncId}{x:Array Operand}{ts:Array TypeId}{v:Value}(ho:o.op=.call { callee:=.value (.func f),args:=x,argTypes:=ts })(he:∀(args:Array Value) (w:World),(callFunc f args).run Tryz.prog w=.ok (.enter f args) w)(hw:Region.wanted o (yielded ops a.tmps)=true)(args:Array Value)(hx:x.map a.eval=args)(hc:∀w,C w→Calls Tryz.prog f args w fun e w''=>e=.returned v∧C w'')(h:wpQuiet Tryz.prog ops C Q rest (a.put o.dst v)):wpQuiet Tryz.prog ops C Q (o::rest) a:=
 Qe4 hw (fun w _=>by
  revert hx
  generalize hρ:a.eval=ρ
  have hf:ρ (.func f)=.func (.func f) #[] #[]:=by rw[← hρ];rfl
  intro hx;subst hx
  simp [execOp,ho,hf,he,go_sem]) hc h
end
abbrev Env:=List (Nat×Value)
structure Ag(N:Nat)(E:Env)(a:Act):Prop where
 sz:a.tmps.size=N
 df:a.defers=[]
 has:∀i v,E.lookup i=some v→a.tmps[i]? =some v
theorem Ag.nil{a:Act}{N:Nat}(h:a.tmps.size=N)(hd:a.defers=[]):Ag N [] a:=⟨h,hd,fun i v h=>by cases h⟩
theorem Ag.cons{a:Act}{N i:Nat}{E:Env}{v:Value}(h:Ag N E a)(hv:a.tmps[i]? =some v):Ag N ((i,v)::E) a:=
 ⟨h.sz,h.df,fun j u hu=>by
  rw[List.lookup_cons] at hu
  split at hu
  ·next hj=>
   cases hu
   rw[beq_iff_eq] at hj;rw[hj];exact hv
  ·exact h.has j u hu⟩
theorem Ag.put{a:Act}{N d:Nat}{E:Env}(h:Ag N E a)(v:Value)(hd:d<N):Ag N ((d,v)::E) (a.put (some d) v):=by
 refine⟨by show (a.tmps.setIfInBounds d v).size=N;rw[Array.size_setIfInBounds];exact h.sz,h.df,fun j u hu=>?_⟩
 show (a.tmps.setIfInBounds d v)[j]? =some u
 rw[List.lookup_cons] at hu
 split at hu
 ·next hj=>
  cases hu
  rw[beq_iff_eq] at hj;subst hj;rw[Array.getElem?_setIfInBounds]
  simp [h.sz,hd]
 ·next hj=>
  have hne:¬j=d:=by simpa using hj
  rw[Array.getElem?_setIfInBounds,if_neg (fun e=>hne e.symm)];exact h.has j u hu
def ev(E:Env):Operand→Option Value
 |.tmp i=>E.lookup i
 |.const v=>some v
 |_=>none
theorem Ag.eval{a:Act}{N:Nat}{E:Env}{x:Operand}{v:Value}(h:Ag N E a)(hx:ev E x=some v):a.eval x=v:=by
 cases x with
 |tmp i=>
  show a.tmps.getD i undef=v
  rw[Array.getD_eq_getD_getElem?,h.has i v hx]
  rfl
 |const u=>cases hx;rfl
 |global g=>cases hx
 |func f=>cases hx
def Qm(ops:Array Oper)(E:Env)(o:Oper):Option Bool:=
 match o.guard with
 |none=>some true
 |some (j,b)=>match (ops[j]?).bind (·.dst) with
  |some s=>match E.lookup s with
   |some (.bool c)=>some (c==b)
   |some (.tuple _)=>some false
   |_=>none
  |none=>none
theorem Ag.want{a:Act}{N:Nat}{E:Env}{ops:Array Oper}{o:Oper}{b:Bool}(h:Ag N E a)(hw:Qm ops E o=some b):Region.wanted o (yielded ops a.tmps)=b:=by
 unfold Qm at hw
 unfold Region.wanted
 cases hg:o.guard with
 |none=>rw[hg] at hw;cases hw;rfl
 |some p=>
  obtain⟨j,c⟩:=p;rw[hg] at hw
  simp only at hw ⊢
  split at hw
  ·next s hs=>
   split at hw
   ·next u hu=>
    have:=h.has s _ hu
    unfold yielded
    rw[hs]
    simp only[Option.bind_some,this]
    cases hw
    cases u<;>cases c<;>rfl
   ·next u hu=>
    have:=h.has s _ hu
    unfold yielded
    rw[hs]
    simp only[Option.bind_some,this]
    cases hw
    rfl
   ·cases hw
  ·cases hw
section
variable {P:Program}{ops:Array Oper}{C:World→Prop}{Q:Act→Prop}{N:Nat}{E:Env}{o:Oper}{rest:List Oper}{d:Nat}
def qE(P:Program)(ops:Array Oper)(C:World→Prop)(Q:Act→Prop)(N:Nat)(E:Env)(l:List Oper):Prop:=∀a,Ag N E a→wpQuiet P ops C Q l a
theorem qE.start{a:Act}{l:List Oper}(h:qE P ops C Q N E l)(ha:Ag N E a):wpQuiet P ops C Q l a:=h a ha
theorem qE.nil(h:∀a,Ag N E a→Q a):qE P ops C Q N E []:=fun a ha=>wpQuiet_nil (h a ha)
theorem qE.cut(E':Env)(n:Nat){l:List Oper}(h1:qE P ops C (fun a=>Ag N E' a) N E (l.take n))(h2:qE P ops C Q N E' (l.drop n)):qE P ops C Q N E l:=fun a ha=>
 Q9R (fun a'=>Ag N E' a') n l a (h1 a ha) (fun a' ha'=>h2 a' ha')
theorem Ag.at_{a:Act}{i:Nat}{v:Value}(h:Ag N E a)(hi:E.lookup i=some v):a.tmps[i]? =some v:=h.has i v hi
theorem J6(hd:o.dst=some d)(hN:d<N)(hw:Qm ops E o=some false)(h:qE P ops C Q N ((d,undef)::E) rest):qE P ops C Q N E (o::rest):=fun a ha=>
 Qe5 (ha.want hw) (h _ (by rw[hd];exact ha.put _ hN))
theorem Xt{x:Operand}{v:Value}(ho:o.op=.move x)(hd:o.dst=some d)(hN:d<N)(hw:Qm ops E o=some true)(hx:ev E x=some v)(h:qE P ops C Q N ((d,v)::E) rest):qE P ops C Q N E (o::rest):=fun a ha=>
 QdY ho (ha.want hw) (ha.eval hx) (h _ (by rw[hd];exact ha.put _ hN))
theorem Q11{x:Operand}{v:Value}(ho:o.op=.assign x)(hd:o.dst=some d)(hN:d<N)(hw:Qm ops E o=some true)(hx:ev E x=some v)(h:qE P ops C Q N ((d,v)::E) rest):qE P ops C Q N E (o::rest):=fun a ha=>
 Qb8 ho (ha.want hw) (ha.eval hx) (h _ (by rw[hd];exact ha.put _ hN))
theorem QP{c x y:Operand}{v:Value}(ho:o.op=.pick c x y)(hd:o.dst=some d)(hN:d<N)(hw:Qm ops E o=some true)(hc:ev E c=some (.bool true))(hx:ev E x=some v)(h:qE P ops C Q N ((d,v)::E) rest):qE P ops C Q N E (o::rest):=fun a ha=>
 Q8j ho (ha.want hw) (ha.eval hc) (ha.eval hx) (h _ (by rw[hd];exact ha.put _ hN))
theorem QY{c x y:Operand}{v:Value}(ho:o.op=.pick c x y)(hd:o.dst=some d)(hN:d<N)(hw:Qm ops E o=some true)(hc:ev E c=some (.bool false))(hx:ev E y=some v)(h:qE P ops C Q N ((d,v)::E) rest):qE P ops C Q N E (o::rest):=fun a ha=>
 QaE ho (ha.want hw) (ha.eval hc) (ha.eval hx) (h _ (by rw[hd];exact ha.put _ hN))
theorem Q75{x:Operand}{t:TypeId}{b:Bool}(ho:o.op=.unOp .not t x)(hd:o.dst=some d)(hN:d<N)(hw:Qm ops E o=some true)(hx:ev E x=some (.bool b))(h:qE P ops C Q N ((d,.bool (!b))::E) rest):qE P ops C Q N E (o::rest):=fun a ha=>
 Qfj ho (ha.want hw) (ha.eval hx) rfl (h _ (by rw[hd];exact ha.put _ hN))
theorem ZS{x y:Operand}{t t':TypeId}{k:IntKind}{m n:Int}{b:Bool}(ho:o.op=.binOp .eql t x y t')(hd:o.dst=some d)(hN:d<N)(hw:Qm ops E o=some true)(hx:ev E x=some (.int k m))(hy:ev E y=some (.int k n))(hb:(m==n)=b)(h:qE P ops C Q N ((d,.bool b)::E) rest):qE P ops C Q N E (o::rest):=fun a ha=>
 Qff ho (ha.want hw) (ha.eval hx) (ha.eval hy) hb (h _ (by rw[hd];exact ha.put _ hN))
theorem Q1i{x:Operand}{t e:TypeId}{A:Option Addr}{n c:Nat}(ho:o.op=.call { callee:=.builtin .len,args:=#[x],argTypes:=#[t] })(ht:P.underlying t=some (.slice e))(hd:o.dst=some d)(hN:d<N)(hw:Qm ops E o=some true)(hx:ev E x=some (.slice A n c))(h:qE P ops C Q N ((d,.int .i64 (n:Int))::E) rest):qE P ops C Q N E (o::rest):=fun a ha=>
 QeL ho ⟨e,ht⟩ (ha.want hw) (ha.eval hx) (h _ (by rw[hd];exact ha.put _ hN))
end
section
variable {ops:Array Oper}{C:World→Prop}{Q:Act→Prop}{N:Nat}{E:Env}{o:Oper}{rest:List Oper}{d:Nat}
theorem Xs{x:Operand}{b i:Nat}(ho:o.op=.fieldAddr 52 x i)(hi:i<12)(hd:o.dst=some d)(hN:d<N)(hw:Qm ops E o=some true)(hx:ev E x=some (.pointer (some ⟨b,0,none⟩)))(h:qE Tryz.prog ops C Q N ((d,.pointer (some ⟨b,i,none⟩))::E) rest):qE Tryz.prog ops C Q N E (o::rest):=fun a ha=>
 Qdv ho hi (ha.want hw) (ha.eval hx) (h _ (by rw[hd];exact ha.put _ hN))
theorem XV{x:Operand}{b:Nat}{v0 v1 v2 v3 v4 v5 v6 v7 v8 v9 v10 v11:Value}(hr:YW C b v0 v1 v2 v3 v4 v5 v6 v7 v8 v9 v10 v11)(ho:o.op=.load 52 x)(hd:o.dst=some d)(hN:d<N)(hw:Qm ops E o=some true)(hx:ev E x=some (.pointer (some ⟨b,0,none⟩)))(h:qE Tryz.prog ops C Q N ((d,.agg #[v0,v1,v2,v3,v4,v5,v6,v7,v8,v9,v10,v11])::E) rest):qE Tryz.prog ops C Q N E (o::rest):=fun a ha=>
 Q6l hr ho (ha.want hw) (ha.eval hx) (h _ (by rw[hd];exact ha.put _ hN))
theorem X6{x:Operand}{b i:Nat}{v v0 v1 v2 v3 v4 v5 v6 v7 v8 v9 v10 v11:Value}(hr:YW C b v0 v1 v2 v3 v4 v5 v6 v7 v8 v9 v10 v11)(ho:o.op=.load 3 x)(hd:o.dst=some d)(hN:d<N)(hw:Qm ops E o=some true)(hx:ev E x=some (.pointer (some ⟨b,i,none⟩)))(hv:[v0,v1,v2,v3,v4,v5,v6,v7,v8,v9,v10,v11][i]? =some v)(h:qE Tryz.prog ops C Q N ((d,v)::E) rest):qE Tryz.prog ops C Q N E (o::rest):=fun a ha=>
 Q87 hr ho (ha.want hw) (ha.eval hx) hv (h _ (by rw[hd];exact ha.put _ hN))
theorem Vs{x:Operand}{b i:Nat}{v v0 v1 v2 v3 v4 v5 v6 v7 v8 v9 v10 v11:Value}(hr:YW C b v0 v1 v2 v3 v4 v5 v6 v7 v8 v9 v10 v11)(ho:o.op=.load 4 x)(hd:o.dst=some d)(hN:d<N)(hw:Qm ops E o=some true)(hx:ev E x=some (.pointer (some ⟨b,i,none⟩)))(hv:[v0,v1,v2,v3,v4,v5,v6,v7,v8,v9,v10,v11][i]? =some v)(h:qE Tryz.prog ops C Q N ((d,v)::E) rest):qE Tryz.prog ops C Q N E (o::rest):=fun a ha=>
 Q6P hr ho (ha.want hw) (ha.eval hx) hv (h _ (by rw[hd];exact ha.put _ hN))
theorem K5{x:Operand}{b i:Nat}{v v0 v1 v2 v3 v4 v5 v6 v7 v8 v9 v10 v11:Value}(hr:YW C b v0 v1 v2 v3 v4 v5 v6 v7 v8 v9 v10 v11)(ho:o.op=.load 49 x)(hd:o.dst=some d)(hN:d<N)(hw:Qm ops E o=some true)(hx:ev E x=some (.pointer (some ⟨b,i,none⟩)))(hv:[v0,v1,v2,v3,v4,v5,v6,v7,v8,v9,v10,v11][i]? =some v)(h:qE Tryz.prog ops C Q N ((d,v)::E) rest):qE Tryz.prog ops C Q N E (o::rest):=fun a ha=>
 Q5x hr ho (ha.want hw) (ha.eval hx) hv (h _ (by rw[hd];exact ha.put _ hN))
theorem VX{x:Operand}{b i:Nat}{v v0 v1 v2 v3 v4 v5 v6 v7 v8 v9 v10 v11:Value}(hr:YW C b v0 v1 v2 v3 v4 v5 v6 v7 v8 v9 v10 v11)(ho:o.op=.load 50 x)(hd:o.dst=some d)(hN:d<N)(hw:Qm ops E o=some true)(hx:ev E x=some (.pointer (some ⟨b,i,none⟩)))(hv:[v0,v1,v2,v3,v4,v5,v6,v7,v8,v9,v10,v11][i]? =some v)(h:qE Tryz.prog ops C Q N ((d,v)::E) rest):qE Tryz.prog ops C Q N E (o::rest):=fun a ha=>
 Q3u hr ho (ha.want hw) (ha.eval hx) hv (h _ (by rw[hd];exact ha.put _ hN))
theorem KU{x:Operand}{b i:Nat}{v v0 v1 v2 v3 v4 v5 v6 v7 v8 v9 v10 v11:Value}(hr:YW C b v0 v1 v2 v3 v4 v5 v6 v7 v8 v9 v10 v11)(ho:o.op=.load 30 x)(hd:o.dst=some d)(hN:d<N)(hw:Qm ops E o=some true)(hx:ev E x=some (.pointer (some ⟨b,i,none⟩)))(hv:[v0,v1,v2,v3,v4,v5,v6,v7,v8,v9,v10,v11][i]? =some v)(h:qE Tryz.prog ops C Q N ((d,v)::E) rest):qE Tryz.prog ops C Q N E (o::rest):=fun a ha=>
 Q6D hr ho (ha.want hw) (ha.eval hx) hv (h _ (by rw[hd];exact ha.put _ hN))
theorem VD{f:FuncId}{x:Operand}{ts:Array TypeId}{u v:Value}(ho:o.op=.call { callee:=.value (.func f),args:=#[x],argTypes:=ts })(he:∀(args:Array Value) (w:World),(callFunc f args).run Tryz.prog w=.ok (.enter f args) w)(hd:o.dst=some d)(hN:d<N)(hw:Qm ops E o=some true)(hx:ev E x=some u)(hc:∀w,C w→Calls Tryz.prog f #[u] w fun e w''=>e=.returned v∧C w'')(h:qE Tryz.prog ops C Q N ((d,v)::E) rest):qE Tryz.prog ops C Q N E (o::rest):=fun a ha=>
 Qfb ho he (ha.want hw) #[u] (by simp [ha.eval hx]) hc (h _ (by rw[hd];exact ha.put _ hN))
end
section
variable {P:Program}{W:World}{Q Q0:Exit→Act→World→Prop}{N:Nat}{E:Env}
def cE(P:Program)(W:World)(Q:Exit→Act→World→Prop)(N:Nat)(E:Env)(c:Code):Prop:=∀a,Ag N E a→∀x:Up W,c.wp P Q a x.w
theorem cE.go{a:Act}{c:Code}(h:cE P W Q N E c)(ha:Ag N E a)(x:Up W):c.wp P Q a x.w:=h a ha x
end
section
variable {P:Program}(w:World)
theorem Q6L{t e:TypeId}{size bytes:Nat}(hT:SlT P t e size bytes)(ty:TypeId)(base:Nat)(A:Option Addr)(n c:Nat)(xs:List Value)(hown:w.ownsRow base e size (.slice A n c) n xs)
  (B:Nat) (A2:Option Addr) (m c2:Nat) (news:List Value) (hr:Rd w B size A2 m news) (h1:∀u∈news,u.oneCell'=true) (hbytes:(n+m)*bytes≤140737488355328) (hbase:base≤w.heap.size):
  ∃A' c' w',(Builtin.append_ #[t,t] ty #[.slice A n c,.slice A2 m c2]).run P w=.ok (.slice A' (n+m) c') w'∧w'.ownsRow base e size (.slice A' (n+m) c') (n+m) (xs++news)∧w.grownBy w' (Value.slice A n c).ownBlock∧Below base w w':=by
 obtain⟨i,z,hi,hz,hs,hby,hzs⟩:=hT.info
 have h63:n+m≤maxLen:=by
  have h:=Nat.le_trans (Nat.le_mul_of_pos_right (n+m) hT.bpos) hbytes
  simp only[maxLen]
  omega
 have hfar:∀k,(Value.slice A n c).ownBlock=some k→base≤k:=fun k hk=>(hown.lt k hk).1
 rcases A2 with _|ad
 ·have hm:m=0:=by
   rcases Nat.eq_zero_or_pos m with h0|h0
   ·exact h0
   ·obtain⟨b,o,h,_⟩:=hr.2 h0
    cases h
  subst hm
  have hn:=hr.empty
  subst hn
  refine⟨A,c,w,?_,by simpa using hown,World.grownBy.refl _ _,Below.refl _ _⟩
  rcases hown.2 with ⟨hv,rfl⟩|⟨g,cap,cur,hv,_,_,hnc,_⟩
  ·simp only[Value.slice.injEq] at hv
   obtain⟨rfl,_,rfl⟩:=hv
   simp [Builtin.append_,run_underlying hT.und,sizeOf,typeInfo,hi,Builtin.lenOf,Builtin.firstCells]
  ·simp only[Value.slice.injEq] at hv
   obtain⟨rfl,_,rfl⟩:=hv
   simp [Builtin.append_,run_underlying hT.und,sizeOf,typeInfo,hi,Builtin.lenOf,Builtin.firstCells,hnc,storeCells]
 ·have hcells:∀j u,news[j]? =some u→w.cell? (ad.add j)=some u:=by
   intro j u hu
   rcases Nat.eq_zero_or_pos m with h0|h0
   ·subst h0
    have hn:=hr.empty
    subst hn
    simp at hu
   ·obtain⟨b,o,h,_,hc⟩:=hr.2 h0
    injection h with h
    subst h
    have e:(⟨b,o,none⟩:Addr).add j=⟨b,o+j,none⟩:=by unfold Addr.add;split<;>simp_all
    rw[e]
    exact hc j u hu
  obtain⟨v',w',hrun,h2,h3,_⟩:=run_append_own (P:=P) w base t ty e i z size bytes hT.und hi hz hs hby hzs hT.pos _ n xs hown ad m c2 news hr.1 hcells h1 h63 hbytes hbase
  obtain⟨A',c',rfl⟩:=Q9O h2
  exact⟨A',c',w',hrun,h2,h3,(Below.refl _ _).grown h3 hbase hfar⟩
end
end Go.Proofs.YtgdiadednlajgaaGreatDoor
