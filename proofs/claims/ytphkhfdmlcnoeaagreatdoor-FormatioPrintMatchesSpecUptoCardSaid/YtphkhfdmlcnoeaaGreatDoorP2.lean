import Derived.Test.YtphkhfdmlcnoeaaGreatDoorP1
import Derived.Test.YtphkhfdmlcnoeaaGreatDoorRows
import Derived.ProofKit
import Derived.OpenShut
import Derived.ShutString
import Derived.SizedLaws
import Derived.Deep.Slices
import Derived.Lib.Bytealg
import Derived.Deep.DeepCutAuto
import Derived.Deep.RegionHeld3
namespace Go.Proofs.YtphkhfdmlcnoeaaGreatDoor
set_option linter.unusedVariables false
set_option linter.unusedSimpArgs false
set_option maxRecDepth 1000000
set_option maxHeartbeats 32000000
open Go.RowKit
def Rd(w:World)(B s:Nat)(A:Option Addr)(n:Nat)(xs:List Value):Prop:=
 xs.length=n*s/\(0<n->∃b o,A=some ⟨b,o,none⟩/\b<B/\∀j u,xs[j]? =some u->w.cell? ⟨b,o+j,none⟩=some u)
structure SlT(P:Program)(t e:TypeId)(size bytes:Nat):Prop where
 und:P.underlying t=some (.slice e)
 info:∃i z,P.info? e=some i/\i.zero=some z/\i.size=size/\i.bytes=bytes/\z.cells.size=size
 pos:0<size
 bpos:0<bytes
theorem SlT.mk'{P:Program}{t e:TypeId}{z:Value}{size bytes:Nat}(und:P.underlying t=some (.slice e))
  (h:(P.info? e).map (fun i=>(i.zero,i.size,i.bytes))=some (some z,size,bytes)) (hz:z.cells.size=size) (hp:0<size) (hb:0<bytes):SlT P t e size bytes:=by
 obtain⟨i,hi,h1,h2,h3⟩:=info_parts h;exact⟨und,⟨i,z,hi,h1,h2,h3,hz⟩,hp,hb⟩
section
variable {w w':World}{B B' s n:Nat}{A:Option Addr}{xs:List Value}
theorem Rd.nil_:Rd w B s A 0 []:=⟨by simp,fun h=>absurd h Q3⟩
theorem Rd.len(h:Rd w B 1 A n xs):xs.length=n:=by have:=h.1;omega
theorem Rd.empty(h:Rd w B s A 0 xs):xs=[]:=List.eq_nil_of_length_eq_zero (by have:=h.1;omega)
theorem Rd.keep(h:Rd w B s A n xs)(hk:∀p:Addr,p.block<B->w'.cell? p=w.cell? p):Rd w' B s A n xs:=
 ⟨h.1,fun hn=>by
  obtain⟨b,o,e,hb,hc⟩:=h.2 hn
  exact⟨b,o,e,hb,fun j u hu=>(hk _ hb).trans (hc j u hu)⟩⟩
theorem Rd.more(h:Rd w B s A n xs)(hB:B<=B'):Rd w B' s A n xs:=
 ⟨h.1,fun hn=>by
  obtain⟨b,o,e,hb,hc⟩:=h.2 hn
  exact⟨b,o,e,by omega,hc⟩⟩
theorem Rd.below(h:Rd w B s A n xs)(hb:Below B w w'):Rd w' B s A n xs:=h.keep fun _ hp=>hb.cell hp
theorem Rd.drew(h:Rd w B s A n xs):Rd w.drew B s A n xs:=h
theorem Rd.alloc(h:Rd w B s A n xs)(hB:B<=w.heap.size)(o:Obj):Rd (w.alloc o) B s A n xs:=h.below ((Below.refl _ _).alloc hB o)
theorem Rd.at_{k:Nat}(h:Rd w B 1 A n xs)(hk:k<n):∃b o u,A=some ⟨b,o,none⟩/\b<B/\xs[k]? =some u/\w.cell? ⟨b,o+k,none⟩=some u:=by
 obtain⟨b,o,e,hb,hc⟩:=h.2 Q3;have hl:k<xs.length:=by have:=h.1;omega
 exact⟨b,o,xs[k],e,hb,List.getElem?_eq_getElem hl,hc k _ (List.getElem?_eq_getElem hl)⟩
theorem Rd.take{m:Nat}(h:Rd w B s A n xs)(hm:m<=n):Rd w B s A m (xs.take (m*s)):=by
 refine⟨by rw[List.length_take,h.1];exact Nat.min_eq_left (Nat.mul_le_mul_right _ hm),fun h0=>?_⟩;obtain⟨b,o,e,hb,hc⟩:=h.2 Q3;refine⟨b,o,e,hb,fun j u hu=>hc j u ?_⟩;rw[List.getElem?_take] at hu;split at hu
 ·exact hu
 ·cases hu
theorem Rd.drop{k cap:Nat}(h:Rd w B s A n xs)(hk:k<=n)(hc:n<=cap):
  Rd w B s (if cap=k then A else A.map (·.add (k*s))) (n - k) (xs.drop (k*s)):=by
 refine⟨by rw[List.length_drop,h.1,Nat.sub_mul],fun hn=>?_⟩;obtain⟨b,o,rfl,hb,hcell⟩:=h.2 Q3;rw[if_neg Q3];refine⟨b,o+k*s,?_,hb,fun j u hu=>?_⟩
 ·simp only[Option.map_some,Option.some.injEq]
  unfold Addr.add;split<;>simp_all
 ·rw[Nat.add_assoc]
  exact hcell _ u (by rw[<- hu,List.getElem?_drop])
theorem Rd.of_own{base:Nat}{e:TypeId}{c:Nat}(h:w.ownsRow base e s (.slice A n c) n xs):Rd w w.heap.size s A n xs:=by
 refine⟨h.1,fun hn=>?_⟩;rcases h.2 with ⟨hv,h0⟩|⟨g,cap,cur,hv,_,hg,_,_,_,ht⟩
 ·omega
 ·simp only[Value.slice.injEq] at hv
  obtain⟨rfl,_,rfl⟩:=hv;refine⟨g,0,rfl,(Array.getElem?_eq_some_iff.1 hg).1,fun j u hu=>?_⟩;rw[cell_of_row w g (0+j) cur e (0,0) hg];rw[<- ht,List.getElem?_take] at hu;split at hu
  ·simpa using hu
  ·cases hu
theorem Rd.one(w:World)(u:Value)(e:TypeId):Rd (w.alloc (.cells #[u] e)) (w.heap.size+1) 1 (some ⟨w.heap.size,0,none⟩) 1 [u]:=by
 refine⟨rfl,fun _=>⟨_,_,rfl,by omega,fun j x hx=>?_⟩⟩;match j,hx with
 |0,hx=>simp at hx;subst hx;simp
end
def ZY(A:Option Addr)(c k s:Nat):Option Addr:=if c=k then A else A.map (·.add (k*s))
theorem Rd.cut{w:World}{B s n:Nat}{A:Option Addr}{xs:List Value}{k m c:Nat}(h:Rd w B s A n xs)(hk:k+m<=n)(hc:n<=c):Rd w B s (ZY A c k s) m ((xs.drop (k*s)).take (m*s)):=by
 exact(h.drop (k:=k) (cap:=c) Q3 hc).take Q3
theorem Qp2{P:Program}{t e:TypeId}{size bytes:Nat}(hT:SlT P t e size bytes)(A:Option Addr)(n c l h:Nat)(h1:l<=h)(h2:h<=c)(w:World):
  (Instr.sliceAt t (.slice A n c) (some (.int .i64 (l:Int))) (some (.int .i64 (h:Int))) none).run P w=.ok (.slice (ZY A c l size) (h - l) (c - l)) w:=by
 obtain⟨i,z,hi,hz,hs,hby,hzs⟩:=hT.info;have he:P.elem t=e:=by simp [Program.elem,hT.und]
 have ht:P.underlying t=some (.slice (P.elem t)):=by rw[he];exact hT.und
 rw[run_sliceAt_slice w t _ _ _ _ ht,run_slice_lh w t A n c ht .i64 .i64 l h Q3 Q3 Q3,he];exact Qfj
theorem Q3W{P:Program}{t e:TypeId}{size bytes:Nat}(hT:SlT P t e size bytes)(A:Option Addr)(n c h:Nat)(h2:h<=c)(w:World):
  (Instr.sliceAt t (.slice A n c) none (some (.int .i64 (h:Int))) none).run P w=.ok (.slice (ZY A c 0 size) h c) w:=by
 obtain⟨i,z,hi,hz,hs,hby,hzs⟩:=hT.info;have he:P.elem t=e:=by simp [Program.elem,hT.und]
 have ht:P.underlying t=some (.slice (P.elem t)):=by rw[he];exact hT.und
 rw[run_sliceAt_slice w t _ _ _ _ ht,run_slice_h w t A n c ht .i64 h Q3 Q3,he];exact Qfj
theorem Qi9{P:Program}{t e:TypeId}{size bytes:Nat}(hT:SlT P t e size bytes)(A:Option Addr)(n c l:Nat)(h1:l<=n)(w:World):
  (Instr.sliceAt t (.slice A n c) (some (.int .i64 (l:Int))) none none).run P w=.ok (.slice (ZY A c l size) (n - l) (c - l)) w:=by
 obtain⟨i,z,hi,hz,hs,hby,hzs⟩:=hT.info;have he:P.elem t=e:=by simp [Program.elem,hT.und]
 have ht:P.underlying t=some (.slice (P.elem t)):=by rw[he];exact hT.und
 rw[run_sliceAt_slice w t _ _ _ _ ht,run_slice_l w t A n c ht .i64 l Q3 Q3,he];exact Qfj
theorem Q8A{w:World}{base:Nat}{e:TypeId}{s:Nat}{v:Value}{n:Nat}{xs:List Value}(h:w.ownsRow base e s v n xs):∃A c,v=.slice A n c:=by
 rcases h.2 with ⟨rfl,rfl⟩|⟨g,cap,cur,rfl,_⟩
 ·exact⟨_,_,rfl⟩
 ·exact⟨_,_,rfl⟩
theorem QgO{w:World}{base:Nat}{e:TypeId}{s:Nat}{A:Option Addr}{n m c:Nat}{xs:List Value}(h:w.ownsRow base e s (.slice A m c) n xs):n<=c/\c<=maxLen:=by
 rcases h.2 with ⟨hv,rfl⟩|⟨g,cap,cur,hv,_,_,h1,h2,_⟩
 ·simp only[Value.slice.injEq] at hv
  obtain⟨_,_,rfl⟩:=hv;exact⟨Nat.le_refl _,Nat.zero_le _⟩
 ·simp only[Value.slice.injEq] at hv
  obtain⟨_,_,rfl⟩:=hv;exact⟨h1,h2⟩
theorem ZV{w w':World}{base B:Nat}{e:TypeId}{s:Nat}{v:Value}{n:Nat}{xs:List Value}(h:w.ownsRow base e s v n xs)(hb:Below B w w')(hB:w.heap.size<=B):w'.ownsRow base e s v n xs:=by
 refine⟨h.1,?_⟩;rcases h.2 with hn|⟨g,cap,cur,rfl,hg,hh,r⟩
 ·exact .inl hn
 ·exact .inr ⟨g,cap,cur,rfl,hg,by rw[hb.block g (Nat.lt_of_lt_of_le (Array.getElem?_eq_some_iff.1 hh).1 hB)];exact hh,r⟩
theorem Jx{w:World}{base base':Nat}{e:TypeId}{s:Nat}{v:Value}{n:Nat}{xs:List Value}(h:w.ownsRow base e s v n xs)(hb:base'<=base):w.ownsRow base' e s v n xs:=by
 refine⟨h.1,?_⟩;rcases h.2 with hn|⟨g,cap,cur,rfl,hg,r⟩
 ·exact .inl hn
 ·exact .inr ⟨g,cap,cur,rfl,by omega,r⟩
section
variable {P:Program}(w:World)
theorem QpV{t e:TypeId}{size bytes:Nat}(hT:SlT P t e size bytes)(ty:TypeId)(base:Nat)(A:Option Addr)(n c:Nat)(xs:List Value)(hown:w.ownsRow base e size (.slice A n c) n xs)
  (B:Nat) (A2:Option Addr) (m c2:Nat) (news:List Value) (hr:Rd w B size A2 m news) (h1:∀u∈news,u.oneCell'=true) (hbytes:(n+m)*bytes<=140737488355328) (hbase:base<=w.heap.size):
  ∃A' c' w',(Builtin.append_ #[t,t] ty #[.slice A n c,.slice A2 m c2]).run P w=.ok (.slice A' (n+m) c') w'/\w'.ownsRow base e size (.slice A' (n+m) c') (n+m) (xs++news)/\Below base w w':=by
 obtain⟨i,z,hi,hz,hs,hby,hzs⟩:=hT.info;have h63:n+m<=maxLen:=by
  exact Qkz
 have hfar:∀k,(Value.slice A n c).ownBlock=some k->base<=k:=fun k hk=>(hown.lt k hk).1;rcases A2 with _|ad
 ·have hm:m=0:=by
   rcases Nat.eq_zero_or_pos m with h0|h0
   ·exact h0
   ·obtain⟨b,o,h,_⟩:=hr.2 h0
    cases h
  subst hm;have hn:=hr.empty;subst hn;refine⟨A,c,w,?_,by simpa using hown,Below.refl _ _⟩;rcases hown.2 with ⟨hv,rfl⟩|⟨g,cap,cur,hv,_,_,hnc,_⟩
  ·simp only[Value.slice.injEq] at hv
   exact Qsa
  ·simp only[Value.slice.injEq] at hv
   obtain⟨rfl,_,rfl⟩:=hv;exact Qmq
 ·have hcells:∀j u,news[j]? =some u->w.cell? (ad.add j)=some u:=by
   intro j u hu;rcases Nat.eq_zero_or_pos m with h0|h0
   ·subst h0
    have hn:=hr.empty;subst hn;simp at hu
   ·obtain⟨b,o,h,_,hc⟩:=hr.2 h0
    injection h with h;subst h;have e:(⟨b,o,none⟩:Addr).add j=⟨b,o+j,none⟩:=by unfold Addr.add;split<;>simp_all
    rw[e];exact hc j u hu
  obtain⟨v',w',hrun,h2,h3,_⟩:=run_append_own (P:=P) w base t ty e i z size bytes hT.und hi hz hs hby hzs hT.pos _ n xs hown ad m c2 news hr.1 hcells h1 h63 hbytes hbase;obtain⟨A',c',rfl⟩:=Q8A h2;exact⟨A',c',w',hrun,h2,(Below.refl _ _).grown h3 hbase hfar⟩
theorem Qtr{o:Oper}{a:Act}{K:Act->World->Prop}{Q:Exit->Act->World->Prop}{t e:TypeId}{size bytes:Nat}(hT:SlT P t e size bytes)(s x:Operand)
  (ho:o.op=.call { callee:=.builtin .append,args:=#[s,x],argTypes:=#[t,t] })
  (base:Nat) (A:Option Addr) (n c:Nat) (xs:List Value) (hs:a.eval s=.slice A n c) (hown:w.ownsRow base e size (.slice A n c) n xs)
  (B:Nat) (A2:Option Addr) (m c2:Nat) (news:List Value) (hx:a.eval x=.slice A2 m c2) (hr:Rd w B size A2 m news) (h1:∀u∈news,u.oneCell'=true)
  (hbytes:(n+m)*bytes<=140737488355328) (hbase:base<=w.heap.size)
  (h:∀A' c' w',w'.ownsRow base e size (.slice A' (n+m) c') (n+m) (xs++news)->Below base w w'->K (a.put o.dst (.slice A' (n+m) c')) w'):o.wp P a w K Q:=by
 obtain⟨A',c',w',hrun,h2,h3⟩:=QpV (P:=P) w hT o.type base A n c xs hown B A2 m c2 news hr h1 hbytes hbase;refine QsG ?_;exact h A' c' w' h2 h3
theorem Q2p{ops:Array Oper}{rest:List Oper}{o:Oper}{a:Act}{Q:Exit->Act->World->Prop}{t e:TypeId}{size bytes:Nat}(hT:SlT P t e size bytes)(hgd:o.guard=none)(s x:Operand)
  (ho:o.op=.call { callee:=.builtin .append,args:=#[s,x],argTypes:=#[t,t] })
  (base:Nat) (A:Option Addr) (n c:Nat) (xs:List Value) (hs:a.eval s=.slice A n c) (hown:w.ownsRow base e size (.slice A n c) n xs)
  (B:Nat) (A2:Option Addr) (m c2:Nat) (news:List Value) (hx:a.eval x=.slice A2 m c2) (hr:Rd w B size A2 m news) (h1:∀u∈news,u.oneCell'=true)
  (hbytes:(n+m)*bytes<=140737488355328) (hbase:base<=w.heap.size)
  (h:∀A' c' w',w'.ownsRow base e size (.slice A' (n+m) c') (n+m) (xs++news)->Below base w w'->wpList P ops Q rest (a.put o.dst (.slice A' (n+m) c')) w'):wpList P ops Q (o::rest) a w:=
 wpList_plain hgd fun _ hK=>Qtr w hT s x ho base A n c xs hs hown B A2 m c2 news hx hr h1 hbytes hbase fun A' c' w' h2 h3=>hK _ _ (h A' c' w' h2 h3)
theorem Z6{ops:Array Oper}{rest:List Oper}{o:Oper}{a:Act}{Q:Exit->Act->World->Prop}{t e:TypeId}{size bytes:Nat}(hT:SlT P t e size bytes)(hgd:o.guard=none)(s x:Operand)
  (ho:o.op=.call { callee:=.builtin .append,args:=#[s,x],argTypes:=#[t,t] })
  (base:Nat) (A:Option Addr) (n c:Nat) (xs:List Value) (hs:a.eval s=.slice A n c) (hown:w.ownsRow base e size (.slice A n c) n xs)
  (B:Nat) (A2:Option Addr) (m c2:Nat) (news:List Value) (hx:a.eval x=.slice A2 m c2) (hr:Rd w B size A2 m news) (h1:∀u∈news,u.oneCell'=true)
  (hbytes:(n+m)*bytes<=140737488355328) (hbase:base<=w.heap.size) {B0:Nat} {w0:World} (hb:Below B0 w0 w) (hB0:B0<=base)
  (h:∀A' c' w',w'.ownsRow base e size (.slice A' (n+m) c') (n+m) (xs++news)->Below base w w'->Below B0 w0 w'->wpList P ops Q rest (a.put o.dst (.slice A' (n+m) c')) w'):wpList P ops Q (o::rest) a w:=
 Q2p w hT hgd s x ho base A n c xs hs hown B A2 m c2 news hx hr h1 hbytes hbase fun A' c' w' h2 h3=>h A' c' w' h2 h3 (hb.trans (h3.mono hB0))
theorem Jj{ops:Array Oper}{rest:List Oper}{o:Oper}{a:Act}{Q:Exit->Act->World->Prop}{t e:TypeId}{bytes:Nat}(hT:SlT P t e 1 bytes)(hgd:o.guard=none)(s x:Operand)
  (ho:o.op=.call { callee:=.builtin .append,args:=#[s,x],argTypes:=#[t,t] })
  (base:Nat) (A:Option Addr) (n c:Nat) (xs:List Value) (hs:a.eval s=.slice A n c) (hown:w.ownsRow base e 1 (.slice A n c) n xs)
  (u:Value) (hx:a.eval x=.slice (some ⟨w.heap.size,0,none⟩) 1 1) (h1:u.oneCell'=true)
  (hbytes:(n+1)*bytes<=140737488355328) (hbase:base<=w.heap.size) {B0:Nat} {w0:World} (hb:Below B0 w0 w) (hB0:B0<=base)
  (h:∀A' c' w',w'.ownsRow base e 1 (.slice A' (n+1) c') (n+1) (xs++[u])->Below base w w'->Below B0 w0 w'->wpList P ops Q rest (a.put o.dst (.slice A' (n+1) c')) w'):wpList P ops Q (o::rest) a (w.alloc (.cells #[u] e)):=by
 have hb':Below base w (w.alloc (.cells #[u] e)):=(Below.refl _ _).alloc hbase _;exact Q2p (w.alloc (.cells #[u] e)) hT hgd s x ho base A n c xs hs (hown.alloc _) (w.heap.size+1) _ 1 1 [u] hx (Rd.one w u e) Qe1 hbytes (Nat.le_trans hbase hb'.size)
  fun A' c' w' h2 h3=>h A' c' w' h2 (hb'.trans h3) (hb.trans ((hb'.trans h3).mono hB0))
end
section
variable {A:Option Addr}{B c n:Nat}{acc:List UInt8}{b:UInt8}{v:Int}{w:World}
theorem slB:SlT Tryz.prog 25 5 1 1:=SlT.mk' Tryz.underlying25 (z:=.int .u8 0) Q5 rfl Q1 Q1
def bv(bs:List UInt8):List Value:=bs.map fun b=>.int .u8 (b.toNat:Int)
theorem QM(bs:List UInt8):(bv bs).length=bs.length:=by simp [bv]
theorem Y1(a b:List UInt8):bv (a++b)=bv a++bv b:=by simp [bv]
theorem ZX(bs:List UInt8):∀u∈bv bs,u.oneCell'=true:=by
 intro u hu;simp only[bv,List.mem_map] at hu;obtain⟨b,_,rfl⟩:=hu;rfl
def JK(w:World)(bs:List UInt8)(e:Ending)(w':World):Prop:=
 ∃A c,e=.returned (.slice A bs.length c)/\w'.ownsRow w.heap.size 5 1 (.slice A bs.length c) bs.length (bv bs)/\Below w.heap.size w w'
theorem Qd4{base:Nat}(h:w.ownsRow base 5 1 (.slice A (acc.length+1) c) (acc.length+1) (bv acc++[.int .u8 v]))(hv:v=(b.toNat:Int)):
  w.ownsRow base 5 1 (.slice A (acc++[b]).length c) (acc++[b]).length (bv (acc++[b])):=by
 subst hv;rw[Y1,List.length_append];exact h
theorem QiU{w0:World}(h:w.ownsRow w0.heap.size 5 1 (.slice A (acc.length+1) c) (acc.length+1) (bv acc++[.int .u8 v]))(hv:v=(b.toNat:Int))(hb:Below w0.heap.size w0 w):
  JK w0 (acc++[b]) (.returned (.slice A (acc.length+1) c)) w:=⟨A,c,by simp,Qd4 h hv,hb⟩
theorem QnU(acc:List UInt8)(b:UInt8):acc.length+1=(acc++[b]).length:=by simp
theorem QdN(ns:List UInt8):∀s:ByteArray,(ns.map (fun b=>((b.toNat:Nat):Int))).foldl (fun r n=>r.push (UInt8.ofNat n.toNat)) s=⟨s.data++ns.toArray⟩:=by
 induction ns with
 |nil=>intro s;simp
 |cons b ns ih=>
  intro s;simp only[List.map_cons,List.foldl_cons];rw[ih];congr 1;simp [ByteArray.push]
theorem Qaz{bs:List UInt8}(h:Rd w B 1 A n (bv bs)):
  (convert 25 9 (.slice A n c)).run Tryz.prog w=.ok (.string ⟨bs.toArray⟩) w:=by
 rw[run_convert_bytes_string w 25 9 5 A n c Tryz.underlying25 Tryz.underlying5 Tryz.underlying9];have hl:=h.len;rw[QM] at hl;rcases A with _|ad
 ·have hn:n=0:=by
   rcases Nat.eq_zero_or_pos n with h0|h0
   ·exact h0
   ·obtain⟨b,o,e,_⟩:=h.2 h0
    cases e
  subst hn;obtain rfl:bs=[]:=List.eq_nil_of_length_eq_zero hl;rfl
 ·have hload:(loadCells ad n).run Tryz.prog w=.ok ((bs.map (fun b=>((b.toNat:Nat):Int))).map (Value.int .u8)).toArray w:=by
   have e:(bs.map (fun b=>((b.toNat:Nat):Int))).map (Value.int .u8)=bv bs:=by simp [bv]
   rw[e];have hn:n=(bv bs).length:=by rw[QM];omega
   rw[hn];refine run_loadCells_list w ad (bv bs) ?_;intro j v hv;have hj:j<(bv bs).length:=(List.getElem?_eq_some_iff.1 hv).1;obtain⟨b,o,e,_,hc⟩:=h.2 Q3;injection e with e;subst e;have e:(⟨b,o,none⟩:Addr).add j=⟨b,o+j,none⟩:=by unfold Addr.add;split<;>simp_all
   rw[e];exact hc j v hv
  rw[run_bytesToString w ad n c _ hload,QdN];have e0:ByteArray.empty.data=#[]:=rfl;rw[e0,Array.empty_append]
theorem Q0J{B':Nat}{A':Option Addr}{n' c':Nat}{a b:List UInt8}(ha:Rd w B 1 A n (bv a))(hb:Rd w B' 1 A' n' (bv b)):
  Calls Tryz.prog 18 #[.slice A n c,.slice A' n' c'] w fun e w'=>e=.returned (.bool (a==b))/\w=w':=by
 have ra:=Qaz (c:=c) ha;have rb:=Qaz (c:=c') hb;go_enter Tryz.func18,Tryz.ntmps18;go_wp2
 exact JH
theorem Km(c i:Int)(w:World):Calls Tryz.prog 20 #[.int .i64 c,.int .i64 i] w fun e w'=>e=.returned (.agg #[.int .i64 c,.int .i64 i])/\w.alloc (.cells #[.int .i64 c,.int .i64 i] 32)=w':=by
 go_enter Tryz.func20,Tryz.ntmps20;go_wp2
 exact bodyPost_ret (v:=.agg #[.int .i64 c,.int .i64 i]) (by simp [results,Tryz.results20,go_sem]) rfl ⟨rfl,rfl⟩
theorem Qj4:Tryz.prog.underlying 32=some (.struct (Tryz.prog.fieldsOf 32)):=by kernel_rfl
theorem Qie:Tryz.prog.stoodInHeld 32=false:=by kernel_rfl
theorem Qb0(d:Nat)(a b c e:Int)(w:World):(Op.equalIn (d+2) 32 (.agg #[.int .i64 a,.int .i64 b]) (.agg #[.int .i64 c,.int .i64 e])).run Tryz.prog w=.ok (a==c&&b==e) w:=by
 rw[run_equalIn_struct w (d+1) 32 _ _ Qj4 Qie];go_simp
 by_cases h1:a=c<;>by_cases h2:b=e<;>simp [h1,h2]
theorem Q35(a b c d:Int)(w:World):(binOp .neq 32 (.agg #[.int .i64 a,.int .i64 b]) (.agg #[.int .i64 c,.int .i64 d])).run Tryz.prog w=.ok (.bool (!(a==c&&b==d))) w:=by
 rw[run_neq_struct,Qb0 9998];rfl
theorem Qc4(n l h:Int)(w:World):
  Calls Tryz.prog 71 #[.int .i64 n,.int .i64 l,.int .i64 h] w fun e w'=>e=.returned (.bool (decide (l<=n)&&decide (n<=h)))/\w=w':=by
 by_cases h1:l<=n
 ·have d1:decide (l<=n)=true:=by simp [h1]
  by_cases h2:n<=h
  ·have d2:decide (n<=h)=true:=by simp [h2]
   rw[d1,d2];go_enter Tryz.func71,Tryz.ntmps71;go_wp2
   exact JH
  ·have d2:decide (n<=h)=false:=by simp;omega
   rw[d1,d2];go_enter Tryz.func71,Tryz.ntmps71;go_wp2
   exact JH
 ·have d1:decide (l<=n)=false:=by simp;omega
  rw[d1];go_enter Tryz.func71,Tryz.ntmps71;go_wp2
  exact JH
end
open Go.ChangeShapes Go.WideShapes Go.ChangeAt Go.RowKit Go.Deep
theorem own:ownKnob Tryz.prog.godebug=none:=by kernel_rfl
theorem Qh0:laidOutB Tryz.prog=true:=by kernel_rfl
section
variable {H:Type}{enc:TypeId×Value->H}{W:World}{base:Nat}{v:Value}{d:DataW H}{p:List MemPlace}
theorem Xy(d:DataW H):1<=Rows.uptoBulk d:=by
 cases d with
 |lit l=>cases l<;>simp [Rows.uptoBulk]
 |nil=>simp [Rows.uptoBulk]
 |ptr d=>simp [Rows.uptoBulk]
 |slice elems spare=>simp [Rows.uptoBulk]
 |agg parts=>simp [Rows.uptoBulk]
 |iface t d=>simp [Rows.uptoBulk]
 |map entries=>simp [Rows.uptoBulk]
 |held h=>simp [Rows.uptoBulk]
theorem Qbm(l:List (DataW H)):l.length<=Rows.uptoBulkAll l:=by
 induction l with
 |nil=>simp [Rows.uptoBulkAll]
 |cons x r ih=>have:=Xy x;simp only[Rows.uptoBulkAll,List.length_cons];omega
theorem QdZ{l:List (DataW H)}(hk:Rows.uptoSmall H l=true):Rows.uptoBulkAll l<=1048576:=of_decide_eq_true hk
theorem Q2E{k:IntKind}{a:Addr}{len cap:Nat}{zs:List Int}(hl:len<=cap)(hz:zs.length=cap)(hc:∀i,i<zs.length->W.cell? (a.add i)=some (.int k (zs.getD i 0))):
  Rd W W.heap.size 1 (some a) len ((zs.take len).map (Value.int k)):=by
 refine⟨by simp;omega,fun hn=>?_⟩;have h0:=hc 0 Q3;have hs:a.spot=none:=by simpa [Addr.add] using World.cell?_spot h0
 obtain⟨b,o,sp⟩:=a;simp only at hs;subst hs;refine⟨b,o,rfl,World.block_lt_of_cell? W _ Qex,fun j u hu=>?_⟩;rw[List.getElem?_map,List.getElem?_take] at hu;split at hu
 ·rename_i hj
  have hjl:j<zs.length:=by omega
  have:=hc j hjl;rw[List.getElem?_eq_getElem hjl] at hu;simp only[Option.map_some,Option.some.injEq] at hu;subst hu;have e:(⟨b,o,none⟩:Addr).add j=⟨b,o+j,none⟩:=by unfold Addr.add;split<;>simp_all
  rw[e] at this;rw[this];simp [List.getD,List.getElem?_eq_getElem hjl]
 ·simp at hu
theorem Q2a(zs:List Int)(h:∀n∈zs,(Lit.int .u8 n).wf=true):∃bs:List UInt8,bs.length=zs.length/\zs.map (Value.int .u8)=bv bs:=by
 refine⟨zs.map fun z=>UInt8.ofNat z.toNat,by simp,?_⟩;unfold bv;rw[List.map_map];refine List.map_congr_left fun z hz=>?_;have:=bounds_u8 (h z hz);have e:(UInt8.ofNat z.toNat).toNat=z.toNat:=by rw[UInt8.toNat_ofNat'];exact QaL
 simp only[Function.comp_apply,e];congr 1;omega
end
section
variable {c:UInt8}
theorem QbI{P:Program}{f:FuncId}{args:Array Value}{w:World}{a n:Nat}{v:Value}(h:Calls P f args (w.drewN (a+n)) fun e w'=>e=.returned v/\w.drewN (a+n)=w'):Calls P f args (w.drewN (a+n)) fun e w''=>e=.returned v/\∃m,w''=w.drewN (a+m):=
 h.mono fun _ _ ⟨he,hm⟩=>⟨he,n,hm.symm⟩
theorem Q0F(w:World)(n:Nat):Below w.heap.size w (w.drewN n):=by
 induction n with
 |zero=>exact Below.refl _ _
 |succ n ih=>exact ih.drew
theorem QpZ(s:ByteArray)(c:Int)(w:World):(callFunc 199 #[.string s,.int .u8 c]).run Tryz.prog w=.ok (.value (.int .i64 (Lib.indexByte s.data.toList c.toNat.toUInt8))) w:=by
 rw[run_callFunc_extern Tryz.func199 (e:=Extern.BytealgIndexByte.indexByte) Q5 Q5 Q5 Q5,Lib.run_indexByteString];rfl
theorem Q0h(s:ByteArray)(c:Int)(w:World):Calls Tryz.prog 180 #[.string s,.int .u8 c] w fun e w'=>e=.returned (.int .i64 (Lib.indexByte s.data.toList c.toNat.toUInt8))/\w=w':=by
 have hr:=QpZ s c;go_enter Tryz.func180,Tryz.ntmps180;go_wp2
 exact JH
theorem Vr(s:ByteArray)(c:Int)(w:World):Calls Tryz.prog 167 #[.string s,.int .u8 c] w fun e w'=>e=.returned (.int .i64 (Lib.indexByte s.data.toList c.toNat.toUInt8))/\w=w':=by
 go_enter Tryz.func167,Tryz.ntmps167;go_wp2_with fail
 refine(Q0h s c _).mono ?_;rintro e w' ⟨rfl,rfl⟩;go_wp2_with fail
 exact JH
def sgn:ByteArray:=⟨#[45,95,46]⟩
def Q2Q(c:UInt8):Bool:=c==45||c==95||c==46
theorem QiQ(c:UInt8):decide (0<=Lib.indexByte sgn.data.toList c)=Q2Q c:=by
 by_cases h1:c=45
 ·subst h1;decide
 ·by_cases h2:c=95
  ·subst h2;decide
  ·by_cases h3:c=46
   ·subst h3;decide
   ·have e:Q2Q c=false:=by simp [Q2Q,h1,h2,h3]
    rw[e];simp [sgn,Lib.indexByte,Ne.symm h1,Ne.symm h2,Ne.symm h3]
theorem Q5x(s:ByteArray)(c:UInt8)(w:World)(h:c.toNat<128):Calls Tryz.prog 188 #[.string s,.int .i32 (c.toNat:Int)] w fun e w'=>e=.returned (.int .i64 (Lib.indexByte s.data.toList c))/\w=w':=by
 have h0:(0:Int)<=(c.toNat:Int):=by omega
 have h1:(c.toNat:Int)<128:=by omega
 have HC:=Q2 (show ((c.toNat:Int).toNat).toUInt8=c by simp);go_enter Tryz.func188,Tryz.ntmps188;go_wp2_with fail
 refine(Vr s (c.toNat:Int) _).mono ?_;rintro e w' ⟨rfl,rfl⟩;rw[HC.out];go_wp2_with fail
 exact JH
theorem Q8h(w:World):Calls Tryz.prog 188 #[.string sgn,.int .i32 65533] w fun e w'=>e=.returned (.int .i64 (-1))/\Below w.heap.size w w':=by
 unfold sgn;have n0:∀ty,(Instr.next (.pointer (some ⟨w.heap.size,0,none⟩)) true ty).run Tryz.prog (w.iter ⟨#[45,95,46]⟩ 0)=.ok (.tuple #[.bool true,.int .i64 0,.int .i32 45]) (w.iter ⟨#[45,95,46]⟩ 1):=fun ty=>run_next_ascii w _ 0 ty Q1 Q1;have n1:∀ty,(Instr.next (.pointer (some ⟨w.heap.size,0,none⟩)) true ty).run Tryz.prog (w.iter ⟨#[45,95,46]⟩ 1)=.ok (.tuple #[.bool true,.int .i64 1,.int .i32 95]) (w.iter ⟨#[45,95,46]⟩ 2):=fun ty=>run_next_ascii w _ 1 ty Q1 Q1;have n2:∀ty,(Instr.next (.pointer (some ⟨w.heap.size,0,none⟩)) true ty).run Tryz.prog (w.iter ⟨#[45,95,46]⟩ 2)=.ok (.tuple #[.bool true,.int .i64 2,.int .i32 46]) (w.iter ⟨#[45,95,46]⟩ 3):=fun ty=>run_next_ascii w _ 2 ty Q1 Q1;have n3:∀ty,(Instr.next (.pointer (some ⟨w.heap.size,0,none⟩)) true ty).run Tryz.prog (w.iter ⟨#[45,95,46]⟩ 3)=.ok (.tuple #[.bool false]) (w.iter ⟨#[45,95,46]⟩ 3):=fun ty=>run_next_end w _ 3 ty Q1;go_enter Tryz.func188,Tryz.ntmps188;go_wp2_with fail
 refine wp_loop_rounds 4 ?_;rw[rounds_succ];go_wp2_with fail
 rw[rounds_succ];go_wp2_with fail
 rw[rounds_succ];go_wp2_with fail
 rw[rounds_succ];go_wp2_with fail
 go_ret;exact⟨rfl,(Below.refl _ _).alloc Xr _⟩
theorem Q8a(r:Nat)(w:World)(h:r<55296):Calls Tryz.prog 205 #[.int .i32 (r:Int)] w fun e w'=>e=.returned (.bool true)/\w=w':=by
 have h0:(0:Int)<=(r:Int):=by omega
 have h1:(r:Int)<55296:=by omega
 go_enter Tryz.func205,Tryz.ntmps205;go_wp2
 exact JH
theorem Q7l(r:Nat)(w:World)(h:57343<r)(h':r<=1114111):Calls Tryz.prog 205 #[.int .i32 (r:Int)] w fun e w'=>e=.returned (.bool true)/\w=w':=by
 have h0:(0:Int)<=(r:Int):=by omega
 have h1:¬(r:Int)<55296:=by omega
 have h2:(57343:Int)<r:=by omega
 have h3:(r:Int)<=1114111:=by omega
 go_enter Tryz.func205,Tryz.ntmps205;go_wp2
 exact JH
theorem Q9Z(r:Nat)(w:World)(h:¬r<55296)(h':¬(57343<r/\r<=1114111)):Calls Tryz.prog 205 #[.int .i32 (r:Int)] w fun e w'=>e=.returned (.bool false)/\w=w':=by
 have h0:(0:Int)<=(r:Int):=by omega
 have h1:¬(r:Int)<55296:=by omega
 by_cases h4:57343<r
 ·have h2:(57343:Int)<r:=by omega
  have h3:¬(r:Int)<=1114111:=by omega
  clear h';go_enter Tryz.func205,Tryz.ntmps205;go_wp2
  exact JH
 ·have h2:¬(57343:Int)<r:=by omega
  clear h';go_enter Tryz.func205,Tryz.ntmps205;go_wp2
  exact JH
theorem Q5G(r:Nat)(w:World)(h:128<=r)(h1':¬r<55296)(h':¬(57343<r/\r<=1114111)):Calls Tryz.prog 188 #[.string sgn,.int .i32 (r:Int)] w fun e w'=>e=.returned (.int .i64 (-1))/\Below w.heap.size w w':=by
 have h0:(0:Int)<=(r:Int):=by omega
 have h1:¬(r:Int)<128:=by omega
 have h2:((r:Int)==65533)=false:=by simp;omega
 have HV:=Q2 (Q9Z r w h1' h');clear h';unfold sgn;go_enter Tryz.func188,Tryz.ntmps188;go_wp2_with fail
 refine HV.out.mono ?_;rintro e w' ⟨rfl,rfl⟩;go_wp2_with fail
 go_ret;exact⟨rfl,Below.refl _ _⟩
theorem QfL(r:Nat)(h:128<=r)(hv:r<55296\/(57343<r/\r<=1114111)):(∃x y:UInt8,Utf8.encode (r:Int)=⟨#[x,y]⟩/\128<=y.toNat)\/(∃x y z:UInt8,Utf8.encode (r:Int)=⟨#[x,y,z]⟩/\128<=z.toNat)\/(∃x y z u:UInt8,Utf8.encode (r:Int)=⟨#[x,y,z,u]⟩/\128<=u.toNat):=by
 have hval:Utf8.valid (r:Int)=true:=by
  unfold Utf8.valid;simp;omega
 have key:∀n:Nat,128<=(UInt8.ofNat (128+n % 64)).toNat:=fun n=>by rw[UInt8.toNat_ofNat',Nat.mod_eq_of_lt Q3];omega
 unfold Utf8.encode;simp only[hval,if_true,Int.toNat_natCast];rw[if_neg Q3];by_cases h1:r<2048
 ·rw[if_pos h1];exact .inl ⟨_,_,rfl,key _⟩
 ·rw[if_neg h1]
  by_cases h2:r<65536
  ·rw[if_pos h2];exact .inr (.inl ⟨_,_,_,rfl,key _⟩)
  ·rw[if_neg h2];exact .inr (.inr ⟨_,_,_,_,rfl,key _⟩)
theorem Qn6(c:UInt8)(k:Nat)(h:128<=c.toNat):Lib.indexByte (sgn.extract k 3).data.toList c=-1:=by
 have key:∀l:List UInt8,(∀x∈l,x.toNat<128)->Lib.indexByte l c=-1:=by
  intro l;induction l with
  |nil=>intro _;rfl
  |cons b l ih=>
   intro hl;have h1:(b==c)=false:=by
    rw[beq_eq_false_iff_ne];rintro rfl;have:=hl b Qn;omega
   simp [Lib.indexByte,h1,ih (fun x hx=>hl x (by simp [hx]))]
 refine key _ fun x hx=>?_;have hx':x∈sgn.data.toList:=by
  have e:=Lib.extract_data sgn k 3;rw[e] at hx;exact List.mem_of_mem_drop (List.mem_of_mem_take hx)
 simp [sgn] at hx';rcases hx' with rfl|rfl|rfl<;>decide
theorem QaO(r:Nat)(S R:ByteArray)(w:World)(hS:S.size=3)(hR:R.size=2)(he:Utf8.encode (r:Int)=R)(hne:((S[1].toNat:Int) != (R[1].toNat:Int))=true)(hnone:Lib.indexByte (S.extract 2 3).data.toList R[1]=-1)(h:128<=r)(hr:¬r=65533)
  (HV:Hid (Calls Tryz.prog 205 #[.int .i32 (r:Int)] w fun e w'=>e=.returned (.bool true)/\w=w')):Calls Tryz.prog 188 #[.string S,.int .i32 (r:Int)] w fun e w'=>e=.returned (.int .i64 (-1))/\Below w.heap.size w w':=by
 have h0:(0:Int)<=(r:Int):=by omega
 have h1:¬(r:Int)<128:=by omega
 have h2:((r:Int)==65533)=false:=by simp;omega
 have HN:=Q2 hnone;have HC:=Q2 (show ((R[1].toNat:Int).toNat).toUInt8=R[1] by simp);clear hr h hnone;go_enter Tryz.func188,Tryz.ntmps188;go_wp2_with fail
 refine HV.out.mono ?_;rintro e w' ⟨rfl,rfl⟩;go_wp2_with fail
 go_step3
 go_wp2_with fail
 refine wp_loop_rounds 1 ?_;rw[rounds_succ];go_wp2_with fail
 go_step3
 go_wp2_with fail
 clear h0 h1 h2 he HV;go_quiet (fail)
 go_wp2_with fail
 go_quiet ((go_at_call 167;exact QbI (Vr _ _ _)))
 rw[HC.out,HN.out];go_wp2_with fail
 rw[Exit.noGoto_ret];go_wp2_with fail
 rw[Exit.noGoto_ret];go_ret;exact⟨rfl,Q0F _ _⟩
theorem Q9Q(r:Nat)(S R:ByteArray)(w:World)(hS:S.size=3)(hR:R.size=3)(he:Utf8.encode (r:Int)=R)(hne:((S[2].toNat:Int) != (R[2].toNat:Int))=true)(hnone:Lib.indexByte ByteArray.empty.data.toList R[2]=-1)(h:128<=r)(hr:¬r=65533)
  (HV:Hid (Calls Tryz.prog 205 #[.int .i32 (r:Int)] w fun e w'=>e=.returned (.bool true)/\w=w')):Calls Tryz.prog 188 #[.string S,.int .i32 (r:Int)] w fun e w'=>e=.returned (.int .i64 (-1))/\Below w.heap.size w w':=by
 have h0:(0:Int)<=(r:Int):=by omega
 have h1:¬(r:Int)<128:=by omega
 have h2:((r:Int)==65533)=false:=by simp;omega
 have HN:=Q2 hnone;have HC:=Q2 (show ((R[2].toNat:Int).toNat).toUInt8=R[2] by simp);clear hr h hnone;go_enter Tryz.func188,Tryz.ntmps188;go_wp2_with fail
 refine HV.out.mono ?_;rintro e w' ⟨rfl,rfl⟩;go_wp2_with fail
 go_step3
 go_wp2_with fail
 refine wp_loop_rounds 1 ?_;rw[rounds_succ];go_wp2_with fail
 go_step3
 go_wp2_with fail
 clear h0 h1 h2 he HV;go_quiet (fail)
 go_wp2_with fail
 go_quiet ((go_at_call 167;exact QbI (Vr _ _ _)))
 rw[HC.out,HN.out];go_wp2_with fail
 rw[Exit.noGoto_ret];go_wp2_with fail
 rw[Exit.noGoto_ret];go_ret;exact⟨rfl,Q0F _ _⟩
theorem QaK(r:Nat)(S R:ByteArray)(w:World)(hS:S.size=3)(hR:R.size=4)(he:Utf8.encode (r:Int)=R)(h:128<=r)(hr:¬r=65533)
  (HV:Hid (Calls Tryz.prog 205 #[.int .i32 (r:Int)] w fun e w'=>e=.returned (.bool true)/\w=w')):Calls Tryz.prog 188 #[.string S,.int .i32 (r:Int)] w fun e w'=>e=.returned (.int .i64 (-1))/\Below w.heap.size w w':=by
 have h0:(0:Int)<=(r:Int):=by omega
 have h1:¬(r:Int)<128:=by omega
 have h2:((r:Int)==65533)=false:=by simp;omega
 clear hr h;go_enter Tryz.func188,Tryz.ntmps188;go_wp2_with fail
 refine HV.out.mono ?_;rintro e w' ⟨rfl,rfl⟩;go_wp2_with fail
 go_step3
 go_wp2_with fail
 refine wp_loop_rounds 1 ?_;rw[rounds_succ];go_wp2_with fail
 rw[Exit.noGoto_ret];go_ret;exact⟨rfl,Below.refl _ _⟩
theorem Qh8(k:Nat)(hk:k<sgn.size)(y:UInt8)(hy:128<=y.toNat):(((sgn[k]).toNat:Int) != (y.toNat:Int))=true:=by
 have hk3:k<3:=hk;rw[bne_iff_ne];have:sgn[k].toNat<128:=by
  match k,hk,hk3 with
  |0,_,_=>exact(show (45:UInt8).toNat<128 by decide)
  |1,_,_=>exact(show (95:UInt8).toNat<128 by decide)
  |2,_,_=>exact(show (46:UInt8).toNat<128 by decide)
 omega
theorem Q6C(r:Nat)(w:World)(h:128<=r):Calls Tryz.prog 188 #[.string sgn,.int .i32 (r:Int)] w fun e w'=>e=.returned (.int .i64 (-1))/\Below w.heap.size w w':=by
 by_cases hr:r=65533
 ·subst hr;exact Q8h w
 ·by_cases hv:r<55296\/(57343<r/\r<=1114111)
  ·have HV:=Q2 (show Calls Tryz.prog 205 #[.int .i32 (r:Int)] w fun e w'=>e=.returned (.bool true)/\w=w' from by
    rcases hv with h|⟨h,h'⟩
    ·exact Q8a r w h
    ·exact Q7l r w h h')
   rcases QfL r h hv with ⟨x,y,he,hy⟩|⟨x,y,z,he,hy⟩|⟨x,y,z,u,he,hy⟩
   ·exact QaO r sgn ⟨#[x,y]⟩ w rfl rfl he (Qh8 1 Q1 y hy) (Qn6 y 2 hy) h hr HV
   ·exact Q9Q r sgn ⟨#[x,y,z]⟩ w rfl rfl he (Qh8 2 Q1 z hy) rfl h hr HV
   ·exact QaK r sgn ⟨#[x,y,z,u]⟩ w rfl rfl he h hr HV
  ·exact Q5G r w h Q3 Q3
def okC(c:UInt8):Bool:=(97<=c.toNat&&c.toNat<=122)||(48<=c.toNat&&c.toNat<=57)||Q2Q c
theorem Q7a(h1:97<=c.toNat)(h2:c.toNat<=122):okC c=true:=by simp [okC,h1,h2]
theorem Q8M(h1:48<=c.toNat)(h2:c.toNat<=57):okC c=true:=by simp [okC,h1,h2]
theorem Q4a(h1:¬(97<=c.toNat/\c.toNat<=122))(h2:¬(48<=c.toNat/\c.toNat<=57)):okC c=Q2Q c:=by
 have e1:(decide (97<=c.toNat)&&decide (c.toNat<=122))=false:=by
  exact Q7E
 have e2:(decide (48<=c.toNat)&&decide (c.toNat<=57))=false:=by
  exact Q7E
 unfold okC;rw[e1,e2];simp
theorem QjV(h:128<=c.toNat):okC c=false:=by
 rw[Q4a Q3 Q3];have key:∀d:UInt8,d.toNat<128->(c==d)=false:=fun d hd=>by
  rw[beq_eq_false_iff_ne];rintro rfl;omega
 simp [Q2Q,key 45 Q1,key 95 Q1,key 46 Q1]
theorem Q2g(c:UInt8)(w:World)(h:c.toNat<128):Calls Tryz.prog 166 #[.string sgn,.int .i32 (c.toNat:Int)] w fun e w'=>e=.returned (.bool (Q2Q c))/\w=w':=by
 have HS:=Q2 (QiQ c);go_enter Tryz.func166,Tryz.ntmps166;go_wp2_with fail
 refine(Q5x sgn c _ h).mono ?_;rintro e w' ⟨rfl,rfl⟩;go_wp2_with fail
 go_ret;exact⟨by rw[<- HS.out];rfl,rfl⟩
theorem Q3i(r:Nat)(w:World)(h:128<=r):Calls Tryz.prog 166 #[.string sgn,.int .i32 (r:Int)] w fun e w'=>e=.returned (.bool false)/\Below w.heap.size w w':=by
 go_enter Tryz.func166,Tryz.ntmps166;go_wp2_with fail
 refine(Q6C r _ h).mono ?_;rintro e w' ⟨rfl,hb⟩;go_wp2_with fail
 go_ret;exact⟨rfl,hb⟩
theorem Q0f(c:UInt8)(w:World)(h:c.toNat<128):Calls Tryz.prog 165 #[.int .i32 (c.toNat:Int)] w fun e w'=>e=.returned (.bool (!okC c))/\w=w':=by
 by_cases h1:97<=c.toNat/\c.toNat<=122
 ·have HK:=Q2 (Q7a h1.1 h1.2);obtain⟨a1,a2⟩:=h1
  have a1':¬(c.toNat:Int)<97:=by omega
  have a2':¬(122:Int)<(c.toNat:Int):=by omega
  go_enter Tryz.func165,Tryz.ntmps165;go_wp2_with fail
  exact Q6I
 ·by_cases h2:48<=c.toNat/\c.toNat<=57
  ·have HK:=Q2 (Q8M h2.1 h2.2);obtain⟨a1,a2⟩:=h2
   have a3:(c.toNat:Int)<97:=by omega
   have a1':¬(c.toNat:Int)<48:=by omega
   have a2':¬(57:Int)<(c.toNat:Int):=by omega
   clear h1;go_enter Tryz.func165,Tryz.ntmps165;go_wp2_with fail
   exact Q6I
  ·have HK:=Q2 (Q4a h1 h2);have HC:=Q2 (Q2g c w h)
   by_cases b1:(c.toNat:Int)<97
   ·by_cases b2:(c.toNat:Int)<48
    ·clear h1 h2
     go_enter Tryz.func165,Tryz.ntmps165;go_wp2_with fail
     refine HC.out.mono ?_;rintro e w' ⟨rfl,rfl⟩;go_wp2_with fail
     exact Q6I
    ·have b3:(57:Int)<(c.toNat:Int):=by omega
     clear h1 h2;go_enter Tryz.func165,Tryz.ntmps165;go_wp2_with fail
     refine HC.out.mono ?_;rintro e w' ⟨rfl,rfl⟩;go_wp2_with fail
     exact Q6I
   ·have b2:(122:Int)<(c.toNat:Int):=by omega
    have b3:¬(c.toNat:Int)<48:=by omega
    have b4:(57:Int)<(c.toNat:Int):=by omega
    clear h1 h2;go_enter Tryz.func165,Tryz.ntmps165;go_wp2_with fail
    refine HC.out.mono ?_;rintro e w' ⟨rfl,rfl⟩;go_wp2_with fail
    exact Q6I
theorem Q7T(r:Nat)(w:World)(h:128<=r):Calls Tryz.prog 165 #[.int .i32 (r:Int)] w fun e w'=>e=.returned (.bool true)/\Below w.heap.size w w':=by
 have b1:¬(r:Int)<97:=by omega
 have b2:(122:Int)<(r:Int):=by omega
 have b3:¬(r:Int)<48:=by omega
 have b4:(57:Int)<(r:Int):=by omega
 go_enter Tryz.func165,Tryz.ntmps165;go_wp2_with fail
 refine(Q3i r _ h).mono ?_;rintro e w' ⟨rfl,hb⟩;go_wp2_with fail
 go_ret;exact⟨rfl,hb⟩
end
section
variable {c:UInt8}{k:Nat}{l:List UInt8}{s:ByteArray}
theorem Q1c(h:k<s.size):s.data.toList[k]? =some s[k]:=by
 rw[List.getElem?_eq_getElem (by simpa using h)];rfl
def Qm7(l:List UInt8)(w:World)(e:Ending)(w':World):Prop:=∃n:Int,e=.returned (.int .i64 n)/\decide (0<=n)=(!(l.all okC))/\Below w.heap.size w w'
def QuY(s:ByteArray)(w:World)(i:Value)(wr:World):Prop:=∃pos:Nat,pos<=s.size/\(s.data.toList.take pos).all okC=true/\w.iter s pos=wr
theorem QoT(h:l[k]? =some c)(hc:okC c=false):l.all okC=false:=by
 rw[List.all_eq_false];exact⟨c,List.mem_of_getElem? h,by simp [hc]⟩
theorem Qjq(h:l[k]? =some c)(hc:okC c=true)(hl:(l.take k).all okC=true):(l.take (k+1)).all okC=true:=by
 rw[List.take_add_one,h,Option.toList_some,List.all_append,hl];simp [hc]
theorem Qmb{w w':World}(h:s.data.toList[k]? =some c)(hc:okC c=false)(hb:Below w.heap.size w w'):Qm7 s.data.toList w (.returned (.int .i64 (k:Int))) w':=
 ⟨_,rfl,by rw[QoT h hc];simp,hb⟩
theorem Q5w(s:ByteArray)(w:World)(hs:s.size<=9223372036854775807):Calls Tryz.prog 204 #[.string s,.func (.func 165) #[] #[],.bool true] w (Qm7 s.data.toList w):=by
 go_enter Tryz.func204,Tryz.ntmps204;go_wp2_with fail
 go_loopw [7] (QuY s w) (fun _ wr=>s.size - wr.iterPos w.heap.size)
 case atStart=>exact⟨0,Nat.zero_le _,rfl,rfl⟩
 case round=>
  obtain⟨pos,hpos,hall,rfl⟩:=hrel;have HALL:=Q2 hall;clear hall;by_cases hp:pos<s.size
  ·have HX:=Q2 (Q1c (s:=s) (k:=pos) hp)
   by_cases ha:s[pos].toNat<128
   ·have hnx:∀ty,(Instr.next (.pointer (some ⟨w.heap.size,0,none⟩)) true ty).run Tryz.prog (w.iter s pos)=_:=fun ty=>run_next_ascii w s pos ty hp ha
    by_cases hc:okC s[pos]=true
    ·go_wp2_with fail
     refine(Q0f s[pos] _ ha).mono ?_;rintro e w' ⟨rfl,rfl⟩;have HC:=Q2 hc;rw[HC.out];clear hc hnx;go_wp2_with fail
     go_roundw
     case rel=>exact⟨pos+1,by omega,Qjq HX.out HC.out HALL.out,rfl⟩
     case measure=>simp;omega
    ·have hc':okC s[pos]=false:=by simpa using hc
     have HC:=Q2 hc';clear hc hc';go_wp2_with fail
     refine(Q0f s[pos] _ ha).mono ?_;rintro e w' ⟨rfl,rfl⟩;rw[HC.out];clear hnx;go_wp2_with fail
     go_ret;exact Qmb HX.out HC.out ((Below.refl _ _).alloc Xr _)
   ·have hh:=decode_high s pos hp Q3;have HC:=Q2 (QjV (c:=s[pos]) Q3)
    have hnx:∀ty,(Instr.next (.pointer (some ⟨w.heap.size,0,none⟩)) true ty).run Tryz.prog (w.iter s pos)=_:=fun ty=>run_next_any w s pos ty hp;generalize (Utf8.decode s pos).1=r at*
    generalize (Utf8.decode s pos).2=d at*
    go_wp2_with fail
    refine(Q7T r _ hh.1).mono ?_;rintro e w' ⟨rfl,hb⟩;clear hnx;go_wp2_with fail
    go_ret;exact Qmb HX.out HC.out (((Below.refl _ _).alloc Xr _).trans (hb.mono (by simp [World.iter])))
  ·have hnx:∀ty,(Instr.next (.pointer (some ⟨w.heap.size,0,none⟩)) true ty).run Tryz.prog (w.iter s pos)=_:=fun ty=>run_next_end w s pos ty hp
   have HA:Hid (s.data.toList.all okC=true):=Q2 (by
    have:=HALL.out
    rwa [List.take_of_length_le Q9d] at this)
   go_wp2_with fail
   go_ret;exact⟨-1,rfl,by rw[HA.out];rfl,(Below.refl _ _).alloc Xr _⟩
theorem Q4s(s:ByteArray)(w:World)(hs:s.size<=9223372036854775807):Calls Tryz.prog 187 #[.string s,.func (.func 165) #[] #[]] w (Qm7 s.data.toList w):=by
 go_enter Tryz.func187,Tryz.ntmps187;go_wp2_with fail
 refine(Q5w s _ hs).mono ?_;rintro e w' ⟨n,rfl,hn,hb⟩;have HN:=Q2 hn;clear hn;go_wp2_with fail
 go_ret;exact⟨n,rfl,HN.out,hb⟩
theorem Q2F(s:ByteArray)(w:World)(hs:s.size<=9223372036854775807):Calls Tryz.prog 164 #[.string s,.func (.func 165) #[] #[]] w fun e w'=>e=.returned (.bool (!(s.data.toList.all okC)))/\Below w.heap.size w w':=by
 go_enter Tryz.func164,Tryz.ntmps164;go_wp2_with fail
 refine(Q4s s _ hs).mono ?_;rintro e w' ⟨n,rfl,hn,hb⟩;have HN:=Q2 hn;clear hn;go_wp2_with fail
 go_ret;exact⟨by rw[<- HN.out];rfl,hb⟩
def QA(l:List UInt8):Bool:=decide (l.length<=32)&&(match l with|[]=>false|c::_=>decide (97<=c.toNat/\c.toNat<=122))&&l.all okC
theorem Q13(h:32<l.length):QA l=false:=by
 have:decide (l.length<=32)=false:=decide_eq_false Q3;simp [QA,this]
theorem Q4I(h:l[0]? =some c)(hc:¬(97<=c.toNat/\c.toNat<=122)):QA l=false:=by
 match l,h with
 |x::r,h=>
  simp at h;subst h;have:decide (97<=x.toNat/\x.toNat<=122)=false:=decide_eq_false hc;unfold QA;simp only[this,Bool.and_false,Bool.false_and]
theorem Q6U(hl:l.length<=32)(h:l[0]? =some c)(hc:97<=c.toNat/\c.toNat<=122):QA l=l.all okC:=by
 match l,h with
 |x::r,h=>
  simp at h;subst h;have h1:decide (97<=x.toNat/\x.toNat<=122)=true:=decide_eq_true hc;have h2:decide ((x::r).length<=32)=true:=decide_eq_true hl;unfold QA;simp only[h1,h2,Bool.true_and]
theorem Q2w(s:ByteArray)(w:World)(hs:s.size<=9223372036854775807):Calls Tryz.prog 133 #[.string s] w fun e w'=>e=.returned (.bool (QA s.data.toList))/\Below w.heap.size w w':=by
 by_cases h0:s.size=0
 ·have e0:s.toList=[]:=by rw[Lib.toList_data];exact List.eq_nil_of_length_eq_zero (by simpa using h0)
  have HK:=Q2 (show QA s.data.toList=false by rw[List.eq_nil_of_length_eq_zero (l:=s.data.toList) (by simpa using h0)];rfl);have e1:s.toList.isEmpty=true:=by rw[e0];rfl
  go_enter Tryz.func133,Tryz.ntmps133;go_wp2_with fail
  exact QgJ
 ·have e1:s.toList.isEmpty=false:=by
   rw[Lib.toList_data];cases h:s.data.toList with
   |nil=>exact absurd (by simpa using congrArg List.length h) h0
   |cons=>rfl
  have e2:¬s.toList=[]:=by intro e;rw[e] at e1;cases e1
  by_cases h32:32<s.size
  ·have HK:=Q2 (Q13 (l:=s.data.toList) (by simpa using h32))
   have h32':(32:Int)<(s.size:Int):=by omega
   go_enter Tryz.func133,Tryz.ntmps133;go_wp2_with fail
   exact QgJ
  ·have h32':¬(32:Int)<(s.size:Int):=by omega
   have hpos:0<s.size:=by omega
   have HX:=Q1c (s:=s) (k:=0) hpos;by_cases hc:97<=s[0].toNat/\s[0].toNat<=122
   ·have HK:=Q2 (Q6U (l:=s.data.toList) (by simpa using (show s.size<=32 by omega)) HX hc);obtain⟨c1,c2⟩:=hc
    have c1':¬(s[0].toNat:Int)<97:=by omega
    have c2':¬(122:Int)<(s[0].toNat:Int):=by omega
    clear HX;go_enter Tryz.func133,Tryz.ntmps133;go_wp2_with fail
    refine(Q2F s _ hs).mono ?_;rintro e w' ⟨rfl,hb⟩;go_wp2_with fail
    go_ret;exact⟨by rw[HK.out];simp,hb⟩
   ·have HK:=Q2 (Q4I (l:=s.data.toList) HX hc);clear HX
    by_cases c1:(s[0].toNat:Int)<97
    ·clear hc
     go_enter Tryz.func133,Tryz.ntmps133;go_wp2_with fail
     exact QgJ
    ·have c2:(122:Int)<(s[0].toNat:Int):=by omega
     clear hc;go_enter Tryz.func133,Tryz.ntmps133;go_wp2_with fail
     exact QgJ
end
section
variable {i lev num:Nat}
structure Nd where
 k:Int
 n:Int
 bs:List UInt8
 ns:List (List UInt8)
inductive VF where
 |nil:VF
 |cons:Nd->VF->VF->VF
def VF.len:VF->Nat
 |.nil=>0
 |.cons _ _ r=>r.len+1
def VF.drop:VF->Nat->VF
 |F,0=>F
 |.nil,_+1=>.nil
 |.cons _ _ r,i+1=>r.drop i
def VF.take:VF->Nat->VF
 |_,0=>.nil
 |.nil,_+1=>.nil
 |.cons d p r,i+1=>.cons d p (r.take i)
def VF.snoc:VF->Nd->VF->VF
 |.nil,d,p=>.cons d p .nil
 |.cons d' p' r,d,p=>.cons d' p' (r.snoc d p)
def VF.All(C:Nd->VF->Prop):VF->Prop
 |.nil=>True
 |.cons d p r=>C d p/\VF.All C r
theorem VF.all_of{C:Nd->VF->Prop}(h:∀d p,VF.All C p->C d p):∀F:VF,VF.All C F:=by
 intro F;induction F with
 |nil=>trivial
 |cons d p r ih1 ih2=>exact⟨h d p ih1,ih2⟩
theorem VF.all_each{C:Nd->VF->Prop}(h:∀d p,VF.All C p->C d p)(d:Nd)(p:VF):C d p:=h d p (VF.all_of h p)
theorem VF.drop_zero(F:VF):F.drop 0=F:=by cases F<;>rfl
theorem VF.drop_cons{F:VF}(h:i<F.len):∃d p,F.drop i=.cons d p (F.drop (i+1)):=by
 induction F generalizing i with
 |nil=>simp [VF.len] at h
 |cons d p r _ ih=>
  cases i with
  |zero=>exact⟨d,p,by rw[VF.drop_zero];show _=VF.cons d p (r.drop 0);rw[VF.drop_zero]⟩
  |succ i=>exact ih (by simp [VF.len] at h;omega)
theorem VF.drop_nil{F:VF}(h:F.len<=i):F.drop i=.nil:=by
 induction F generalizing i with
 |nil=>cases i<;>rfl
 |cons d p r _ ih=>
  cases i with
  |zero=>simp [VF.len] at h
  |succ i=>exact ih (by simp [VF.len] at h;omega)
theorem VF.all_drop{C:Nd->VF->Prop}{F:VF}(h:VF.All C F)(i:Nat):VF.All C (F.drop i):=by
 induction F generalizing i with
 |nil=>cases i<;>trivial
 |cons d p r _ ih=>
  cases i with
  |zero=>exact h
  |succ i=>exact ih h.2 i
theorem VF.len_snoc(F:VF)(d:Nd)(p:VF):(F.snoc d p).len=F.len+1:=by
 induction F with
 |nil=>rfl
 |cons _ _ r _ ih=>simp [VF.snoc,VF.len,ih]
theorem VF.take_zero(F:VF):F.take 0=.nil:=by cases F<;>rfl
theorem VF.take_all{F:VF}(h:F.len<=i):F.take i=F:=by
 induction F generalizing i with
 |nil=>cases i<;>rfl
 |cons d p r _ ih=>
  cases i with
  |zero=>simp [VF.len] at h
  |succ i=>show VF.cons d p (r.take i)=_;rw[ih (by simp [VF.len] at h;omega)]
def QcD(d:Nd)(np:Nat):Bool:=
 decide (d.k≠1/\d.n≠0)||decide (d.k≠2/\0<d.bs.length)||decide (d.k≠4/\0<d.ns.length)||decide (d.k<3/\0<np)||decide (d.k=4/\d.ns.length≠np)
def QJ(d:Nd)(np:Nat):Int:=
 if d.k<1\/4<d.k then 5 else if QcD d np=true then 6 else if 600<np then 14 else if d.ns.all QA=false then 7 else if ¬d.ns.Nodup then 8 else 0
theorem Qjf(d:Nd)(np:Nat):0<=QJ d np/\QJ d np<=14:=by
 unfold QJ;repeat' split
 all_goals omega
def Xg:VF->Nat->Nat->Sum (Int×Int) Nat
 |.nil,num,_=>.inr num
 |.cons d p r,num,lev=>
  if 600<=num\/10<lev then .inl (2,(num:Int))
  else if QJ d p.len≠0 then .inl (QJ d p.len,(num:Int))
  else match Xg p (num+1) (lev+1) with
   |.inl f=>.inl f
   |.inr m=>Xg r m lev
theorem Zz{d:Nd}{p r:VF}(h:600<=num\/10<lev):Xg (.cons d p r) num lev=.inl (2,(num:Int)):=by rw[Xg,if_pos h]
theorem XZ{d:Nd}{p r:VF}(h:¬(600<=num\/10<lev))(hn:QJ d p.len≠0):Xg (.cons d p r) num lev=.inl (QJ d p.len,(num:Int)):=by rw[Xg,if_neg h,if_pos hn]
theorem Zv{d:Nd}{p r:VF}{f:Int×Int}(h:¬(600<=num\/10<lev))(hn:¬QJ d p.len≠0)(hp:Xg p (num+1) (lev+1)=.inl f):Xg (.cons d p r) num lev=.inl f:=by rw[Xg,if_neg h,if_neg hn,hp]
theorem ZM{d:Nd}{p r:VF}{m:Nat}(h:¬(600<=num\/10<lev))(hn:¬QJ d p.len≠0)(hp:Xg p (num+1) (lev+1)=.inr m):Xg (.cons d p r) num lev=Xg r m lev:=by rw[Xg,if_neg h,if_neg hn,hp]
theorem VP(F:VF):∀(num lev:Nat) (c i:Int),Xg F num lev=.inl (c,i)->c≠0:=by
 induction F with
 |nil=>intro num lev c i h;cases h
 |cons d p r ih1 ih2=>
  intro num lev c i h;by_cases h1:600<=num\/10<lev
  ·rw[Zz h1] at h;injection h with h;injection h with h;omega
  ·by_cases h2:QJ d p.len≠0
   ·rw[XZ h1 h2] at h;injection h with h;injection h with h;omega
   ·cases hp:Xg p (num+1) (lev+1) with
    |inl f=>rw[Zv h1 h2 hp] at h;injection h with h;subst h;exact ih1 _ _ _ _ hp
    |inr m=>rw[ZM h1 h2 hp] at h;exact ih2 _ _ _ _ h
theorem Q1k(F:VF):∀(num lev m:Nat),Xg F num lev=.inr m->num<=m/\(num<=600->m<=600):=by
 induction F with
 |nil=>intro num lev m h;injection h with h;omega
 |cons d p r ih1 ih2=>
  intro num lev m h;by_cases h1:600<=num\/10<lev
  ·rw[Zz h1] at h;cases h
  ·by_cases h2:QJ d p.len≠0
   ·rw[XZ h1 h2] at h;cases h
   ·cases hp:Xg p (num+1) (lev+1) with
    |inl f=>rw[Zv h1 h2 hp] at h;cases h
    |inr k=>
     rw[ZM h1 h2 hp] at h;have a:=ih1 _ _ _ hp;have b:=ih2 _ _ _ h;omega
end
section
variable {u:Nat}
def Q9H:Nat->Nat->List UInt8
 |0,u=>[UInt8.ofNat u]
 |k+1,u=>if u<128 then [UInt8.ofNat u] else UInt8.ofNat (u % 128+128)::Q9H k (u / 128)
def enc(u:Nat):List UInt8:=Q9H u u
theorem QpK(k:Nat):∀(j u:Nat),u<=k->u<=j->Q9H k u=Q9H j u:=by
 induction k with
 |zero=>intro j u h _;cases j<;>simp [Q9H];omega
 |succ k ih=>
  intro j u hk hj;cases j with
  |zero=>simp [Q9H];omega
  |succ j=>
   simp only[Q9H];by_cases h:u<128
   ·rw[if_pos h,if_pos h]
   ·rw[if_neg h,if_neg h,ih j (u / 128) Q3 Q3]
theorem Q6A(h:u<128):enc u=[UInt8.ofNat u]:=by
 unfold enc;cases u with
 |zero=>rfl
 |succ u=>simp only[Q9H];rw[if_pos h]
theorem QdJ(h:128<=u):enc u=UInt8.ofNat (u % 128+128)::enc (u / 128):=by
 unfold enc;cases u with
 |zero=>omega
 |succ u=>simp only[Q9H];rw[if_neg Q3,QpK u ((u+1) / 128) _ Q3 Q3]
theorem Qpg(k:Nat):∀u:Nat,u<128 ^ (k+1)->(enc u).length<=k+1:=by
 induction k with
 |zero=>intro u h;rw[Q6A (by simpa using h)];simp
 |succ k ih=>
  intro u h;by_cases hu:u<128
  ·rw[Q6A hu];simp
  ·rw[QdJ Q3];have:=ih (u / 128) QmK
   simp only[List.length_cons];omega
theorem QhQ(u:Nat)(h:u<18446744073709551616):(enc u).length<=10:=Qpg 9 u (by
 have:(128:Nat) ^ (9+1)=1180591620717411303424:=by decide
 omega)
def Qbo:Nat->Nat->List Nat
 |0,_=>[]
 |k+1,u=>if u=0 then [] else u % 128::Qbo k (u / 128)
def Q80(u:Nat):List Nat:=Qbo u u
theorem QpL(k:Nat):∀(j u:Nat),u<=k->u<=j->Qbo k u=Qbo j u:=by
 induction k with
 |zero=>
  intro j u h _;obtain rfl:u=0:=by omega
  cases j<;>simp [Qbo]
 |succ k ih=>
  intro j u hk hj;cases j with
  |zero=>
   obtain rfl:u=0:=by omega
   simp [Qbo]
  |succ j=>
   simp only[Qbo];by_cases h:u=0
   ·rw[if_pos h,if_pos h]
   ·rw[if_neg h,if_neg h,ih j (u / 128) Q3 Q3]
theorem Q3R:Q80 0=[]:=rfl
theorem Qdf(h:0<u):Q80 u=u % 128::Q80 (u / 128):=by
 unfold Q80;cases u with
 |zero=>omega
 |succ u=>simp only[Qbo];rw[if_neg Q3,QpL u ((u+1) / 128) _ Q3 Q3]
def grp(u:Nat):List Nat:=u % 128::Q80 (u / 128)
theorem Qpd(k:Nat):∀u:Nat,u<128 ^ (k+1)->(enc u).length=(grp u).length/\∀i g,(grp u)[i]? =some g->g<128/\(enc u)[i]? =some (UInt8.ofNat (if i+1<(grp u).length then g+128 else g)):=by
 induction k with
 |zero=>
  intro u h;have h:u<128:=by simpa using h
  have e:u / 128=0:=by omega
  have e2:u % 128=u:=by omega
  rw[Q6A h];unfold grp;rw[e,e2,Q3R];refine⟨rfl,fun i g hg=>?_⟩;match i,hg with
  |0,hg=>simp at hg;subst hg;exact⟨h,by simp⟩
 |succ k ih=>
  intro u h;by_cases hu:u<128
  ·have e:u / 128=0:=by omega
   have e2:u % 128=u:=by omega
   rw[Q6A hu];unfold grp;rw[e,e2,Q3R];refine⟨rfl,fun i g hg=>?_⟩;match i,hg with
   |0,hg=>simp at hg;subst hg;exact⟨hu,by simp⟩
  ·have e:grp u=u % 128::grp (u / 128):=by
    unfold grp;rw[Qdf (u:=u / 128) Q3]
   obtain⟨h1,h2⟩:=ih (u / 128) QmK;rw[QdJ Q3,e];have hp:0<(grp (u / 128)).length:=by simp [grp]
   refine⟨by simp [h1],fun i g hg=>?_⟩;match i,hg with
   |0,hg=>
    simp at hg;subst hg;refine⟨by omega,?_⟩;rw[if_pos (by simp only[List.length_cons];omega)];simp
   |i+1,hg=>
    simp only[List.getElem?_cons_succ] at hg ⊢;obtain⟨a,b⟩:=h2 i g hg;refine⟨a,?_⟩;rw[b];simp only[List.length_cons,Nat.add_lt_add_iff_right]
def zig(n:Int):Nat:=if 0<=n then 2*n.toNat else 2*(-(n+1)).toNat+1
theorem Qa0(n:Int)(h1:-9223372036854775808<=n)(h2:n<=9223372036854775807):zig n<18446744073709551616:=by
 unfold zig;split<;>omega
theorem Qg6(u:Nat)(h:u<18446744073709551616):(enc u).length=(grp u).length/\∀i g,(grp u)[i]? =some g->g<128/\(enc u)[i]? =some (UInt8.ofNat (if i+1<(grp u).length then g+128 else g)):=
 Qpd 9 u (by
  have:(128:Nat) ^ (9+1)=1180591620717411303424:=by decide
  omega)
def num(n:Int):List UInt8:=enc (zig n)
theorem XG(n:Int)(h1:-9223372036854775808<=n)(h2:n<=9223372036854775807):(num n).length<=10:=QhQ _ (Qa0 n h1 h2)
def QuM:Nat->List UInt8->Sum Nat (Nat×Nat)
 |_,[]=>.inl 15
 |i,c::l=>
  if (i=9/\1<c.toNat)\/(0<i/\c.toNat=0) then .inl 1
  else if c.toNat<128 then .inr (c.toNat,1)
  else match QuM (i+1) l with
   |.inl e=>.inl e
   |.inr p=>.inr (c.toNat - 128+128*p.1,p.2+1)
def dec(l:List UInt8):Sum Nat (Nat×Nat):=QuM 0 l
theorem Q55(u:Nat)(h:u<256):(UInt8.ofNat u).toNat=u:=by
 rw[UInt8.toNat_ofNat'];exact QaL
end
theorem Q79(n:Int):IntKind.u64.wrap n=n % 18446744073709551616:=by simp [IntKind.wrap,IntKind.bits,IntKind.signed]
theorem QlW(x:Nat)(h:x<18446744073709551616):x ^^^ 18446744073709551615=18446744073709551615 - x:=by
 have e:(BitVec.ofNat 64 x ^^^ BitVec.allOnes 64).toNat=18446744073709551615 - x:=by
  rw[BitVec.xor_allOnes,BitVec.toNat_not,BitVec.toNat_ofNat,Nat.mod_eq_of_lt Q3]
 rw[BitVec.toNat_xor,BitVec.toNat_ofNat,BitVec.toNat_allOnes,Nat.mod_eq_of_lt Q3] at e;exact e
theorem Qmg(n:Int)(h1:-9223372036854775808<=n)(h2:n<=9223372036854775807):
  bits .xor .u64 (IntKind.u64.wrap (IntKind.u64.wrap n*2)) (IntKind.u64.wrap (n / 9223372036854775808))=((zig n:Nat):Int):=by
 have w1:=Q79 n;have w2:=Q79 (IntKind.u64.wrap n*2);have w3:=Q79 (n / 9223372036854775808);by_cases h:0<=n
 ·have e1:IntKind.u64.wrap (IntKind.u64.wrap n*2)=((2*n.toNat:Nat):Int):=by omega
  have e2:IntKind.u64.wrap (n / 9223372036854775808)=((0:Nat):Int):=by omega
  rw[e1,e2,u64_xor_nat _ _ Q3 Q3,Nat.xor_zero];unfold zig;rw[if_pos h]
 ·have e1:IntKind.u64.wrap (IntKind.u64.wrap n*2)=((18446744073709551616 - 2*(-n).toNat:Nat):Int):=by omega
  have e2:IntKind.u64.wrap (n / 9223372036854775808)=((18446744073709551615:Nat):Int):=by omega
  rw[e1,e2,u64_xor_nat _ _ Q3 Q3,QlW _ Q3];unfold zig;rw[if_neg h];omega
theorem Qpj(u:Nat):bits .or .u8 ((u:Int) % 256) 128=(((UInt8.ofNat (u % 128+128)).toNat:Nat):Int):=by
 rw[Q55 _ Q3];have e1:(u:Int) % 256=((u % 256:Nat):Int):=by omega
 have e2:(128:Int)=((128:Nat):Int):=rfl;rw[e1,e2,u8_or_nat _ _ Q3 Q3];by_cases h:u % 256<128
 ·rw[Nat.or_comm,nat_join 7 128 (u % 256) Q1 Q3];omega
 ·have e3:u % 256=128|||(u % 128):=by rw[nat_join 7 128 (u % 128) Q1 Q3];omega
  rw[e3,Nat.or_comm,<- Nat.or_assoc,Nat.or_self,nat_join 7 128 (u % 128) Q1 Q3];omega
theorem Q9v(u:Nat)(h:u<256):(u:Int)=(((UInt8.ofNat u).toNat:Nat):Int):=by
 rw[Q55 _ Q3]
def QtU(w:World)(m:List UInt8)(u v:Value)(wr:World):Prop:=
 ∃(x:Nat) (acc:List UInt8) (A:Option Addr) (c:Nat),u=.int .u64 (x:Int)/\v=.slice A acc.length c/\wr.ownsRow w.heap.size 5 1 (.slice A acc.length c) acc.length (bv acc)/\Below w.heap.size w wr/\acc++enc x=m
theorem Qjt{n:Int}{acc:List UInt8}{x:Nat}(h:acc++enc x=num n)(hx:¬x<128):(acc++[UInt8.ofNat (x % 128+128)])++enc (x / 128)=num n:=by
 rw[<- h,QdJ (by omega:128<=x)];simp
theorem Z7(n:Int)(w:World)(h1:-9223372036854775808<=n)(h2:n<=9223372036854775807):
  Calls Tryz.prog 143 #[.int .i64 n] w (JK w (num n)):=by
 have hl:=XG n h1 h2;go_enter Tryz.func143,Tryz.ntmps143;go_wp2_with fail
 rw[Qmg n h1 h2];go_loopw [3,4] (fun u v wr=>QtU w (num n) u v wr) (fun u _ _=>(intOf u).toNat)
 case atStart=>exact⟨zig n,[],none,0,rfl,rfl,World.ownsRow_nil _ _ _ _,Below.refl _ _,rfl⟩
 case round=>
  obtain⟨x,acc,A,c,rfl,rfl,hown,hb,he⟩:=hrel;have HE:=Q2 he;have hal:acc.length+(enc x).length<=10:=by
   have:=congrArg List.length he;rw[List.length_append] at this;omega
  have hsz:=hb.size;clear he h1 h2;by_cases hx:x<128
  ·have hxx:(x:Int)<128:=by omega
   go_wp2_with (first|(at_builtin;refine Jj _ slB rfl (.tmp 22) (.tmp 25) rfl w.heap.size A acc.length c (bv acc) rfl hown _ rfl rfl Q3 hsz hb (Nat.le_refl _) ?_;intro A1 c1 w1 hown1 _ hb1))
   go_ret;have e:acc++[UInt8.ofNat x]=num n:=by rw[<- HE.out,Q6A hx]
   rw[<- e];exact QiU hown1 (Q9v x Q3) hb1
  ·go_wp2_with (first|(at_builtin;refine Jj _ slB rfl (.tmp 16) (.tmp 20) rfl w.heap.size A acc.length c (bv acc) rfl hown _ rfl rfl Q3 hsz hb (Nat.le_refl _) ?_;intro A1 c1 w1 hown1 _ hb1))
   go_roundw
   case rel=>exact⟨x / 128,_,A1,c1,by go_num,by rw[<- QnU],Qd4 hown1 (Qpj x),hb1,Qjt HE.out hx⟩
   case measure=>simp [intOf];omega
section
variable {A:Option Addr}{acc:List Nat}{base c i x:Nat}{m:List UInt8}{w:World}
theorem slI:SlT Tryz.prog 48 3 1 8:=SlT.mk' Tryz.underlying48 (z:=.int .i64 0) Q5 rfl Q1 Q1
def iv(l:List Int):List Value:=l.map (Value.int .i64)
theorem Q0o(l:List Int):(iv l).length=l.length:=by simp [iv]
theorem QlV(a b:List Int):iv (a++b)=iv a++iv b:=by simp [iv]
theorem QdQ(l:List Int):∀u∈iv l,u.oneCell'=true:=by
 intro u hu;simp only[iv,List.mem_map] at hu;obtain⟨b,_,rfl⟩:=hu;rfl
def nv(l:List Nat):List Value:=l.map fun(g:Nat)=>Value.int .i64 (g:Int)
theorem QoU(l:List Nat)(g:Nat):nv (l++[g])=nv l++[.int .i64 (g:Int)]:=by simp [nv]
def Qtz(w:World)(m:Nat)(u v:Value)(wr:World):Prop:=
 ∃(x:Nat) (acc:List Nat) (A:Option Addr) (c:Nat),u=.int .u64 (x:Int)/\v=.slice A acc.length c/\wr.ownsRow w.heap.size 3 1 (.slice A acc.length c) acc.length (nv acc)/\Below w.heap.size w wr/\(x:Int)<18446744073709551616/\
  ((acc=[]/\x=m)\/(acc≠[]/\acc++Q80 x=grp m))
def Qq8(w w1:World)(m:Nat)(v k:Value)(wr:World):Prop:=
 ∃(i:Nat) (A:Option Addr) (c:Nat),k=.int .i64 (i:Int)/\i<=(enc m).length/\v=.slice A i c/\wr.ownsRow w1.heap.size 5 1 (.slice A i c) i (bv ((enc m).take i))/\Below w1.heap.size w1 wr/\Below w.heap.size w wr
theorem Qg5(n u:Int)(h:u=((zig n:Nat):Int))(w:World):Value.int .u64 u=.int .u64 ((zig n:Nat):Int)/\w=w:=⟨by rw[h],rfl⟩
def Qee(u v:Value):Nat:=match v with|.slice _ 0 _=>(intOf u).toNat+1|_=>(intOf u).toNat
theorem Q8T(x:Nat)(acc:List Nat)(A A':Option Addr)(c c':Nat)(h:acc=[]\/0<x):Qee (.int .u64 ((x:Int) / 128)) (.slice A' (acc.length+1) c')<Qee (.int .u64 (x:Int)) (.slice A acc.length c):=by
 have e1:Qee (.int .u64 ((x:Int) / 128)) (.slice A' (acc.length+1) c')=x / 128:=by simp [Qee,intOf];omega
 rw[e1];rcases acc with _|⟨g,acc⟩
 ·simp [Qee,intOf];omega
 ·simp [Qee,intOf]
  rcases h with h|h
  ·cases h
  ·omega
theorem Qco{m:Nat}(h:(acc=[]/\x=m)\/(acc≠[]/\acc++Q80 x=grp m))(hx:acc=[]\/0<x):acc++[x % 128]≠[]/\(acc++[x % 128])++Q80 (x / 128)=grp m:=by
 refine⟨by simp,?_⟩;rcases h with ⟨rfl,rfl⟩|⟨h1,h2⟩
 ·simp [grp]
 ·rcases hx with hx|hx
  ·exact absurd hx h1
  ·rw[<- h2,Qdf hx];simp
theorem QpT{n:Int}(h1:-9223372036854775808<=n)(h2:n<=9223372036854775807)(h:(acc=[]/\x=zig n)\/(acc≠[]/\acc++Q80 x=grp (zig n))):acc.length<=10:=by
 have hg:=(Qg6 (zig n) (Qa0 n h1 h2)).1;have hl:=XG n h1 h2;unfold num at hl;rcases h with ⟨rfl,_⟩|⟨_,h⟩
 ·simp
 ·rw[hg,<- h,List.length_append] at hl;omega
theorem QmY{m:Nat}(h:(acc=[]/\x=m)\/(acc≠[]/\acc++Q80 x=grp m))(ha:acc≠[])(hx:¬0<x):acc=grp m:=by
 rcases h with ⟨h,_⟩|⟨_,h⟩
 ·exact absurd h ha
 ·obtain rfl:x=0:=by omega
  rw[Q3R,List.append_nil] at h;exact h
theorem QbE{b:UInt8}{v:Int}(h:w.ownsRow base 5 1 (.slice A (i+1) c) (i+1) (bv (m.take i)++[.int .u8 v]))
  (hb:m[i]? =some b) (hv:v=(b.toNat:Int)):w.ownsRow base 5 1 (.slice A (i+1) c) (i+1) (bv (m.take (i+1))):=by
 subst hv;have hi:i<m.length:=(List.getElem?_eq_some_iff.1 hb).1;have e:m.take (i+1)=m.take i++[b]:=by
  rw[List.take_succ_eq_append_getElem hi];rw[List.getElem?_eq_getElem hi] at hb;injection hb with hb;rw[hb]
 rw[e,Y1];exact h
theorem QpC{w0:World}(h:w.ownsRow base 5 1 (.slice A i c) i (bv (m.take i)))(hi:i=m.length)(hB:w0.heap.size<=base)(hb:Below w0.heap.size w0 w):
  JK w0 m (.returned (.slice A i c)) w:=by
 subst hi;rw[List.take_length] at h;exact⟨A,c,rfl,Jx h hB,hb⟩
theorem QmE(h:w.ownsRow base 3 1 (.slice A (acc.length+1) c) (acc.length+1) (nv acc++[.int .i64 ((x:Int) % 128)])):
  w.ownsRow base 3 1 (.slice A (acc++[x % 128]).length c) (acc++[x % 128]).length (nv (acc++[x % 128])):=by
 rw[QoU,List.length_append];exact h
theorem Q40(n:Int)(w:World)(h1:-9223372036854775808<=n)(h2:n<=9223372036854775807):
  Calls Tryz.prog 86 #[.int .i64 n] w (JK w (num n)):=by
 have hl:=XG n h1 h2;go_enter Tryz.func86,Tryz.ntmps86;go_upto_if 8 with (fail)
 go_cut [3] (fun u wx=>u=.int .u64 ((zig n:Nat):Int)/\wx=w)
 case first=>
  by_cases hn:0<=n
  ·go_wp2_with fail
   go_meet
   exact Qg5 n _ (by unfold zig;rw[if_pos hn];omega) _
  ·go_wp2_with fail
   go_meet
   exact Qg5 n _ (by unfold zig;rw[if_neg Q3];omega) _
 case rest=>
  obtain⟨rfl,rfl⟩:=hcut;have H1:=Q2 h1;have H2:=Q2 h2;clear h1 h2;go_wp2_with fail
  go_loopw [3,4] (fun u v wr=>Qtz wc (zig n) u v wr) (fun u v _=>Qee u v)
  case atStart=>exact⟨zig n,[],none,0,rfl,rfl,World.ownsRow_nil _ _ _ _,Below.refl _ _,by have:=Qa0 n H1.out H2.out;omega,.inl ⟨rfl,rfl⟩⟩
  case round=>
   obtain⟨x,acc,A,c,rfl,rfl,hown,hb,hx64,he⟩:=hrel;have hsz:=hb.size;have hal:=QpT H1.out H2.out he;have HE:=Q2 he;clear he;by_cases ha0:acc=[]
   ·have HR:=Q2 (Qco HE.out (.inl ha0))
    have HA:=Q2 ha0;have ha:((acc.length:Int)==0)=true:=by rw[ha0];rfl
    clear ha0;go_wp2_with (first|(at_builtin;refine Jj _ slI rfl (.tmp 25) (.tmp 29) rfl wc.heap.size A acc.length c (nv acc) rfl hown _ rfl rfl Q3 hsz hb (Nat.le_refl _) ?_;intro A1 c1 w1 hown1 _ hb1))
    go_roundw
    case rel=>exact⟨x / 128,_,A1,c1,by go_num,by simp,QmE hown1,hb1,by omega,.inr HR.out⟩
    case measure=>exact Q8T x acc _ _ _ _ (.inl HA.out)
   ·have ha:((acc.length:Int)==0)=false:=by
     have:=List.length_pos_iff.2 ha0;simp;exact ha0
    have HA:=Q2 ha0;clear ha0;by_cases hx:0<x
    ·have HR:=Q2 (Qco HE.out (.inr hx))
     have hxi:(0:Int)<(x:Int):=by omega
     go_wp2_with (first|(at_builtin;refine Jj _ slI rfl (.tmp 25) (.tmp 29) rfl wc.heap.size A acc.length c (nv acc) rfl hown _ rfl rfl Q3 hsz hb (Nat.le_refl _) ?_;intro A1 c1 w1 hown1 _ hb1))
     go_roundw
     case rel=>exact⟨x / 128,_,A1,c1,by go_num,by simp,QmE hown1,hb1,by omega,.inr HR.out⟩
     case measure=>exact Q8T x acc _ _ _ _ (.inr hx)
    ·have hxi:¬(0:Int)<(x:Int):=by omega
     have hg:acc=grp (zig n):=QmY HE.out HA.out hx;obtain⟨hlen,hgr⟩:=Qg6 (zig n) (Qa0 n H1.out H2.out);rw[<- hg] at hlen hgr;have HL:=Q2 hlen;have HG:=Q2 hgr;have hpos:0<acc.length:=List.length_pos_iff.2 HA.out;have hll:(enc (zig n)).length=acc.length:=hlen;clear hg hlen hgr;obtain⟨b,o,rfl,hbB,hcells⟩:=(Rd.of_own hown).2 hpos;have HC:=Q2 hcells;clear hcells hown;go_wp2_with fail
     obtain⟨w1,rfl⟩:∃w1:World,w1=wr:=⟨_,rfl⟩;have HLL:=Q2 hll;clear hll hal;have hal2:acc.length<=10:=by rw[<- HLL.out];exact hl
     go_loopw [5,6] (fun v k wr=>Qq8 wc w1 (zig n) v k wr) (fun _ k _=>acc.length - (intOf k).toNat)
     case atStart=>exact⟨0,none,0,rfl,Nat.zero_le _,rfl,World.ownsRow_nil _ _ _ _,Below.refl _ _,hb⟩
     case round=>
      obtain⟨i,A2,c2,rfl,hi,rfl,hown2,hb2,hb3⟩:=hrel;rw[HLL.out] at hi;have hsz2:=hb2.size;by_cases hlt:i<acc.length
      ·have hgi:acc[i]? =some acc[i]:=List.getElem?_eq_getElem hlt
       obtain⟨hg128,henc⟩:=HG.out i _ hgi;have hcell:wr.cell? ⟨b,o+i,none⟩=some (.int .i64 (acc[i]:Int)):=(hb2.cell (by exact hbB)).trans (HC.out i _ (by simp [nv,hgi]));have HN:=Q2 henc;generalize acc[i]=g at*
       clear henc hgi;by_cases hlast:i+1<acc.length
       ·have hli:(i:Int)+1<(acc.length:Int):=by omega
        go_wp2_with (first|(at_builtin;refine Jj _ slB rfl (.tmp 44) (.tmp 51) rfl w1.heap.size A2 i c2 _ rfl hown2 _ rfl rfl Q3 hsz2 hb3 Q3 ?_;intro A3 c3 w3 hown3 hb4 hb5))
        go_roundw
        case rel=>exact⟨i+1,A3,c3,by go_num,by rw[HLL.out];omega,rfl,QbE hown3 (by rw[HN.out,if_pos hlast]) (Q9v (g+128) Q3),hb2.trans hb4,hb5⟩
        case measure=>simp [intOf];omega
       ·have hli:¬(i:Int)+1<(acc.length:Int):=by omega
        go_wp2_with (first|(at_builtin;refine Jj _ slB rfl (.tmp 53) (.tmp 59) rfl w1.heap.size A2 i c2 _ rfl hown2 _ rfl rfl Q3 hsz2 hb3 Q3 ?_;intro A3 c3 w3 hown3 hb4 hb5))
        go_roundw
        case rel=>exact⟨i+1,A3,c3,by go_num,by rw[HLL.out];omega,rfl,QbE hown3 (by rw[HN.out,if_neg hlast]) (Q9v g Q3),hb2.trans hb4,hb5⟩
        case measure=>simp [intOf];omega
      ·go_wp2_with fail
       go_ret;exact QpC hown2 (by have:=HLL.out;unfold num;omega) hsz hb3
end
section
variable {A:Option Addr}{B c n:Nat}{bs:List UInt8}{w w':World}{xs:List Value}
theorem JK.intro(h:w'.ownsRow w.heap.size 5 1 (.slice A n c) n xs)(hx:xs=bv bs)(hb:Below w.heap.size w w'):JK w bs (.returned (.slice A n c)) w':=by
 subst hx;have hn:n=bs.length:=by have:=h.1;rw[QM] at this;omega
 subst hn;exact⟨A,c,rfl,h,hb⟩
theorem JK.as{m:Nat}(h:w'.ownsRow w.heap.size 5 1 (.slice A m c) m xs)(hn:n=m)(hx:xs=bv bs)(hb:Below w.heap.size w w'):JK w bs (.returned (.slice A n c)) w':=by
 subst hn;exact JK.intro h hx hb
theorem Q2G(h:Rd w B 1 A n (bv bs))(hn:n<=140737488355328):
  Calls Tryz.prog 50 #[.slice A n c] w (JK w bs):=by
 go_enter Tryz.func50,Tryz.ntmps50;go_wp2_with (at_builtin;refine Q2p _ slB rfl (.tmp 4) (.tmp 5) rfl w.heap.size none 0 0 [] rfl (World.ownsRow_nil _ _ _ _) B A n c (bv bs) rfl h (ZX _) Q3 (Nat.le_refl _) ?_;intro A1 c1 w1 hown1 hb1)
 simp only[Nat.zero_add,List.nil_append] at hown1;go_ret;exact JK.intro hown1 rfl hb1
theorem QeU{B':Nat}{A':Option Addr}{n' c':Nat}{a b:List UInt8}(ha:Rd w B 1 A n (bv a))(hb:Rd w B' 1 A' n' (bv b))(hB:B'<=w.heap.size)(hn:n+n'<=140737488355328):
  Calls Tryz.prog 19 #[.slice A n c,.slice A' n' c'] w (JK w (a++b)):=by
 have hl:a.length=n:=by have:=ha.len;rw[QM] at this;exact this
 go_enter Tryz.func19,Tryz.ntmps19;go_wp2_with fail
 refine(Q2G ha Q3).mono ?_;rintro e w1 ⟨A1,c1,rfl,hown1,hb1⟩;have HB:=Q2 hb;have HL:=Q2 hl;have hsz:=hb1.size;have hn':a.length+n'<=140737488355328:=by omega
 clear hb hl;go_wp2_with (at_builtin;refine Z6 _ slB rfl (.tmp 6) (.tmp 7) rfl w.heap.size A1 a.length c1 (bv a) rfl hown1 B' A' n' c' (bv b) rfl (HB.out.below (hb1.mono hB)) (ZX _) Q3 hsz hb1 (Nat.le_refl _) ?_;intro A2 c2 w2 hown2 _ hb2)
 go_ret;exact JK.intro hown2 (by rw[Y1]) hb2
def ZK(bs:List UInt8):List UInt8:=num (bs.length:Int)++bs
theorem K2(bs:List UInt8)(h:bs.length<=140737488355318):(ZK bs).length<=bs.length+10:=by
 unfold ZK;rw[List.length_append];have:=XG (bs.length:Int) Q3 Q3;omega
theorem Q4N(h:Rd w w.heap.size 1 A n (bv bs))(hn:n<=140737488355318):
  Calls Tryz.prog 144 #[.slice A n c] w (JK w (ZK bs)):=by
 have hl:bs.length=n:=by have:=h.len;rw[QM] at this;exact this
 unfold ZK;rw[hl];have hnl:=XG (n:Int) Q3 Q3;go_enter Tryz.func144,Tryz.ntmps144;go_wp2_with fail
 refine(Z7 (n:Int) _ Q3 Q3).mono ?_;rintro e w1 ⟨A1,c1,rfl,hown1,hb1⟩;have HB:=Q2 h;have HL:=Q2 hl;have hsz:=hb1.size;clear h hl;generalize num (n:Int)=m at*
 go_wp2_with (at_builtin;refine Z6 _ slB rfl (.tmp 5) (.tmp 6) rfl w.heap.size A1 m.length c1 (bv m) rfl hown1 w.heap.size A n c (bv bs) rfl (HB.out.below hb1) (ZX _) Q3 hsz hb1 (Nat.le_refl _) ?_;intro A2 c2 w2 hown2 _ hb2)
 go_ret;exact JK.intro hown2 (by rw[Y1]) hb2
theorem Q7p(h:Rd w w.heap.size 1 A n (bv bs))(hn:n<=140737488355318):
  Calls Tryz.prog 87 #[.slice A n c] w (JK w (ZK bs)):=by
 have hl:bs.length=n:=by have:=h.len;rw[QM] at this;exact this
 unfold ZK;rw[hl];have hnl:=XG (n:Int) Q3 Q3;go_enter Tryz.func87,Tryz.ntmps87;go_wp2_with fail
 refine(Q40 (n:Int) _ Q3 Q3).mono ?_;rintro e w1 ⟨A1,c1,rfl,hown1,hb1⟩;have HB:=Q2 h;have HL:=Q2 hl;have hsz:=hb1.size;clear h hl;generalize num (n:Int)=m at*
 go_wp2_with fail
 refine(QeU (Rd.of_own hown1) (HB.out.below hb1) hsz Q3).mono ?_;rintro e w2 ⟨A2,c2,rfl,hown2,hb2⟩;go_wp2
 go_ret;exact JK.as (Jx hown2 hsz) Qn rfl (hb1.trans (hb2.mono hsz))
end
theorem slS:SlT Tryz.prog 27 9 1 16:=SlT.mk' Tryz.underlying27 (z:=.string ⟨#[]⟩) Q5 rfl Q1 Q1
def sv(l:List (List UInt8)):List Value:=l.map fun p=>.string ⟨p.toArray⟩
theorem Xw(l:List (List UInt8)):(sv l).length=l.length:=by simp [sv]
theorem QtJ(a b:List (List UInt8)):sv (a++b)=sv a++sv b:=by simp [sv]
theorem Qtc(l:List (List UInt8)):∀u∈sv l,u.oneCell'=true:=by
 intro u hu;simp only[sv,List.mem_map] at hu;obtain⟨b,_,rfl⟩:=hu;rfl
theorem Vb{w:World}{B n k:Nat}{A:Option Addr}{xs:List (List UInt8)}(h:Rd w B 1 A n (sv xs))(hk:k<n):∃(b o:Nat) (s:ByteArray),A=some ⟨b,o,none⟩/\b<B/\xs[k]? =some s.data.toList/\w.cell? ⟨b,o+k,none⟩=some (.string s):=by
 obtain⟨b,o,u,rfl,hb,hu,hc⟩:=h.at_ hk;unfold sv at hu;rw[List.getElem?_map] at hu;cases e:xs[k]? with
 |none=>rw[e] at hu;cases hu
 |some p=>rw[e] at hu;simp at hu;exact⟨b,o,⟨p.toArray⟩,rfl,hb,rfl,by rw[hc,<- hu]⟩
section
variable {A:Option Addr}{B c i n:Nat}{s:List UInt8}{w:World}{x:Int}{xs:List (List UInt8)}{α:Type}
theorem Q6F{k:Nat}{xs:List Int}(h:Rd w B 1 A n (iv xs))(hk:k<n):∃b o x,A=some ⟨b,o,none⟩/\b<B/\xs[k]? =some x/\w.cell? ⟨b,o+k,none⟩=some (.int .i64 x):=by
 obtain⟨b,o,u,rfl,hb,hu,hc⟩:=h.at_ hk;unfold iv at hu;rw[List.getElem?_map] at hu;cases e:xs[k]? with
 |none=>rw[e] at hu;cases hu
 |some p=>rw[e] at hu;simp at hu;exact⟨b,o,p,rfl,hb,rfl,by rw[hc,<- hu]⟩
def QrQ(t:Bool)(w:World)(e:Ending)(w':World):Prop:=∃n:Int,e=.returned (.int .i64 n)/\decide (0<=n)=t/\w=w'
def XR{α:Type}[BEq α](xs:List α)(x:α):Bool:=xs.contains x
def QsC{α:Type}[BEq α](xs:List α)(x:α)(k:Value):Prop:=∃i:Nat,i<=xs.length/\k=.int .i64 (i:Int)/\XR (xs.take i) x=false
theorem QeW[BEq α][LawfulBEq α]{xs:List α}{x:α}(h:xs[i]? =some x):XR xs x=true:=by
 unfold XR;rw[List.contains_iff_mem];exact List.mem_of_getElem? h
theorem Qat[BEq α][LawfulBEq α]{xs:List α}{x y:α}(h:xs[i]? =some y)(hne:¬x=y)(hl:XR (xs.take i) x=false):XR (xs.take (i+1)) x=false:=by
 rw[List.take_add_one,h,Option.toList_some];unfold XR at*
 have h1:¬x∈xs.take i:=fun hm=>by rw[List.contains_iff_mem.2 hm] at hl;cases hl
 cases e:(xs.take i++[y]).contains x with
 |false=>rfl
 |true=>
  rw[List.contains_iff_mem,List.mem_append,List.mem_singleton] at e;rcases e with e|e
  ·exact absurd e h1
  ·exact absurd e hne
theorem Qtb[BEq α]{xs:List α}{x:α}(h:xs.length<=i)(hl:XR (xs.take i) x=false):XR xs x=false:=by
 rwa [List.take_of_length_le h] at hl
theorem Q5F{xs:List Int}(h:Rd w B 1 A n (iv xs))(hn:n<=9223372036854775807):Calls Tryz.prog 100 #[.slice A n c,.int .i64 x] w (QrQ (XR xs x) w):=by
 have HL:=Qsx;have HR:=Q2 h;clear h;go_enter Tryz.func100,Tryz.ntmps100;go_wp2_with fail
 go_loop [8] (QsC xs x) (fun k=>n - (intOf k).toNat)
 case atStart=>exact⟨0,Nat.zero_le _,rfl,rfl⟩
 case round=>
  obtain⟨i,hi,rfl,hf⟩:=hrel;rw[HL.out] at hi;have HF:=Q2 hf;clear hf;by_cases hlt:i<n
  ·obtain⟨b,o,y,rfl,hb,hy,hc⟩:=Q6F HR.out hlt;have HY:=Q2 hy
   have hli:(i:Int)<(n:Int):=by omega
   have h0:(0:Int)<=(i:Int):=by omega
   clear hy;by_cases hxy:x=y
   ·subst hxy
    go_wp2_with fail
    go_ret;exact⟨i,rfl,by rw[QeW HY.out];simp,rfl⟩
   ·have hxy':(x==y)=false:=by simpa using hxy
    have HNE:=Q2 hxy;clear hxy;go_wp2_with fail
    go_round
    case rel=>exact⟨i+1,by rw[HL.out];omega,by go_num,Qat HY.out HNE.out HF.out⟩
    case measure=>simp [intOf];omega
  ·go_wp2_with fail
   go_ret;exact QnM
theorem Y8{xs:List Int}(h:Rd w B 1 A n (iv xs))(hn:n<=9223372036854775807):Calls Tryz.prog 68 #[.slice A n c,.int .i64 x] w fun e w'=>e=.returned (.bool (XR xs x))/\w=w':=by
 go_enter Tryz.func68,Tryz.ntmps68;go_wp2_with fail
 refine(Q5F h hn).mono ?_;rintro e w' ⟨m,rfl,hm,rfl⟩;have HM:=Q2 hm;clear hm;go_wp2_with fail
 go_ret;exact⟨by rw[<- HM.out];rfl,rfl⟩
theorem Q5I{s:ByteArray}(h:Rd w B 1 A n (sv xs))(hn:n<=9223372036854775807):Calls Tryz.prog 132 #[.slice A n c,.string s] w (QrQ (XR xs s.data.toList) w):=by
 have HL:=Qkm;have HR:=Q2 h;clear h;go_enter Tryz.func132,Tryz.ntmps132;go_wp2_with fail
 go_loop [8] (QsC xs s.data.toList) (fun k=>n - (intOf k).toNat)
 case atStart=>exact⟨0,Nat.zero_le _,rfl,rfl⟩
 case round=>
  obtain⟨i,hi,rfl,hf⟩:=hrel;rw[HL.out] at hi;have HF:=Q2 hf;clear hf;by_cases hlt:i<n
  ·obtain⟨b,o,y,rfl,hb,hy,hc⟩:=Vb HR.out hlt;have HY:=Q2 hy
   have hli:(i:Int)<(n:Int):=by omega
   have h0:(0:Int)<=(i:Int):=by omega
   clear hy;by_cases hxy:s=y
   ·subst hxy
    go_wp2_with fail
    go_ret;exact⟨i,rfl,by rw[QeW HY.out];simp,rfl⟩
   ·have hne:¬s.toList=y.toList:=fun e=>hxy (by
     rw[Lib.toList_data,Lib.toList_data] at e
     obtain⟨⟨l⟩⟩:=s;obtain⟨⟨m⟩⟩:=y;simp at e;rw[e])
    have hxy':(s.toList==y.toList)=false:=by simpa using hne
    have HNE:=Q2 (show ¬s.data.toList=y.data.toList by rw[<- Lib.toList_data,<- Lib.toList_data];exact hne);clear hxy hne;go_wp2_with fail
    go_round
    case rel=>exact⟨i+1,by rw[HL.out];omega,by go_num,Qat HY.out HNE.out HF.out⟩
    case measure=>simp [intOf];omega
  ·go_wp2_with fail
   go_ret;exact QnM
theorem Y3{s:ByteArray}(h:Rd w B 1 A n (sv xs))(hn:n<=9223372036854775807):Calls Tryz.prog 150 #[.slice A n c,.string s] w fun e w'=>e=.returned (.bool (XR xs s.data.toList))/\w=w':=by
 go_enter Tryz.func150,Tryz.ntmps150;go_wp2_with fail
 refine(Q5I h hn).mono ?_;rintro e w' ⟨m,rfl,hm,rfl⟩;have HM:=Q2 hm;clear hm;go_wp2_with fail
 go_ret;exact⟨by rw[<- HM.out];rfl,rfl⟩
theorem Q7X(s:ByteArray)(w:World)(hs:s.size<=9223372036854775807):Calls Tryz.prog 173 #[.string s] w fun e w'=>e=.returned (.bool (!(QA s.data.toList)))/\Below w.heap.size w w':=by
 go_enter Tryz.func173,Tryz.ntmps173;go_wp2_with fail
 refine(Q2w s _ hs).mono ?_;rintro e w' ⟨rfl,hb⟩;go_wp2_with fail
 go_ret;exact⟨rfl,hb⟩
def Qvr(t:Bool)(w:World)(e:Ending)(w':World):Prop:=∃n:Int,e=.returned (.int .i64 n)/\decide (0<=n)=t/\Below w.heap.size w w'
def QuN(xs:List (List UInt8))(w:World)(k:Value)(wr:World):Prop:=∃i:Nat,i<=xs.length/\k=.int .i64 (i:Int)/\(xs.take i).all QA=true/\Below w.heap.size w wr
theorem Qi0(h:xs[i]? =some s)(hs:QA s=false):xs.all QA=false:=by
 rw[List.all_eq_false];exact⟨s,List.mem_of_getElem? h,by simp [hs]⟩
theorem QeZ(h:xs[i]? =some s)(hs:QA s=true)(hl:(xs.take i).all QA=true):(xs.take (i+1)).all QA=true:=by
 rw[List.take_add_one,h,Option.toList_some,List.all_append,hl];simp [hs]
def Small(xs:List (List UInt8)):Prop:=∀x∈xs,x.length<=9223372036854775807
theorem Q3N(h:Rd w w.heap.size 1 A n (sv xs))(hn:n<=9223372036854775807)(hx:Small xs):Calls Tryz.prog 146 #[.slice A n c,.func (.func 173) #[] #[]] w (Qvr (!(xs.all QA)) w):=by
 have HL:=Qkm;have HR:=Q2 h;have HX:=Q2 hx;clear h hx;go_enter Tryz.func146,Tryz.ntmps146;go_wp2_with fail
 go_loopw [8] (QuN xs w) (fun k _=>n - (intOf k).toNat)
 case atStart=>exact⟨0,Nat.zero_le _,rfl,rfl,Below.refl _ _⟩
 case round=>
  obtain⟨i,hi,rfl,hf,hbw⟩:=hrel;rw[HL.out] at hi;have HF:=Q2 hf;have HB:=Q2 hbw;clear hf hbw;by_cases hlt:i<n
  ·obtain⟨b,o,s,rfl,hb,hy,hc⟩:=Vb HR.out hlt
   have HY:=Q2 hy;have hc':wr.cell? ⟨b,o+i,none⟩=some (.string s):=(HB.out.cell JU).trans hc;have hsz:s.size<=9223372036854775807:=by simpa using HX.out _ (List.mem_of_getElem? hy)
   have hli:(i:Int)<(n:Int):=by omega
   have h0:(0:Int)<=(i:Int):=by omega
   clear hy hc;go_wp2_with fail
   refine(Q7X s _ hsz).mono ?_;rintro e w2 ⟨rfl,hb2⟩;have HB2:=Q2 (HB.out.trans (hb2.mono HB.out.size));clear hb2;by_cases hnm:QA s.data.toList=true
   ·have HNM:=Q2 hnm
    rw[HNM.out];clear hnm;go_wp2_with fail
    go_roundw
    case rel=>exact⟨i+1,by rw[HL.out];omega,by go_num,QeZ HY.out HNM.out HF.out,HB2.out⟩
    case measure=>simp [intOf];omega
   ·have HNM:=Q2 (show QA s.data.toList=false by simpa using hnm)
    rw[HNM.out];clear hnm;go_wp2_with fail
    go_ret;exact⟨i,rfl,by rw[Qi0 HY.out HNM.out];simp,HB2.out⟩
  ·go_wp2_with fail
   go_ret;refine⟨-1,rfl,?_,HB.out⟩;have:=HF.out;rw[List.take_of_length_le (by rw[HL.out];omega)] at this;rw[this];rfl
theorem X1(h:Rd w w.heap.size 1 A n (sv xs))(hn:n<=9223372036854775807)(hx:Small xs):Calls Tryz.prog 172 #[.slice A n c,.func (.func 173) #[] #[]] w fun e w'=>e=.returned (.bool (!(xs.all QA)))/\Below w.heap.size w w':=by
 go_enter Tryz.func172,Tryz.ntmps172;go_wp2_with fail
 refine(Q3N h hn hx).mono ?_;rintro e w' ⟨m,rfl,hm,hb⟩;have HM:=Q2 hm;clear hm;go_wp2_with fail
 go_ret;exact⟨by rw[<- HM.out];rfl,hb⟩
theorem Qjb{g:Nat}{xs:List Int}{k:Int}(h:Rd w B 1 A n (iv xs))(hn:n<=9223372036854775807)(hk:w.cell? ⟨g,0,none⟩=some (.int .i64 k)):Calls Tryz.prog 171 #[.slice A n c,.pointer (some ⟨g,0,none⟩)] w fun e w'=>e=.returned (.bool (XR xs k))/\w=w':=by
 go_enter Tryz.func171,Tryz.ntmps171;go_wp2_with fail
 refine(Y8 h hn).mono ?_;rintro e w' ⟨rfl,rfl⟩;go_wp2_with fail
 exact JH
end
section
variable {i np:Nat}{ns:List (List UInt8)}{s:List UInt8}{w:World}
theorem Rd.lit(w:World)(cs:Array Value)(e:TypeId):Rd (w.alloc (.cells cs e)) (w.heap.size+1) 1 (some ⟨w.heap.size,0,none⟩) cs.size cs.toList:=by
 refine⟨by simp,fun _=>⟨_,_,rfl,by omega,fun j u hu=>?_⟩⟩;rw[cell_of_row _ w.heap.size (0+j) cs e (0,0) (heap_alloc_new w _)];simpa using hu
theorem QB(w:World)(o:Obj):(w.alloc o).heap.size=w.heap.size+1:=by simp
theorem Qj{p:Addr}{v:Value}{o:Obj}(h:w.cell? p=some v):(w.alloc o).cell? p=some v:=(World.cell?_alloc_some _ _ _ (by rw[h];rfl)).trans h
theorem Xb(w:World)(a b c d e:Value)(T:TypeId):(w.alloc (.cells #[a,b,c,d,e] T)).cell? ⟨w.heap.size,0,none⟩=some a:=by simp
theorem QbR(w:World)(a b c d e:Value)(T:TypeId):(w.alloc (.cells #[a,b,c,d,e] T)).cell? ⟨w.heap.size,3,none⟩=some d:=by simp
theorem Qq{g gk n c:Nat}{cs:Array Value}{ty:TypeId}{t:Bool}(xs:List Int)(k:Int)(hg:gk=w.heap.size)(hx:cs=(iv xs).toArray)(hn:n=xs.length)(hk:w.cell? ⟨g,0,none⟩=some (.int .i64 k))(hl:xs.length<=10)(hres:XR xs k=t):
  Calls Tryz.prog 171 #[.slice (some ⟨gk,0,none⟩) n c,.pointer (some ⟨g,0,none⟩)] (w.alloc (.cells cs ty)) fun e w'=>e=.returned (.bool t)/\w.alloc (.cells cs ty)=w':=by
 subst hg hx hn hres;have h:=Rd.lit w (iv xs).toArray ty;simp only[List.size_toArray,Q0o] at h;exact Qjb h Q3 ((World.cell?_alloc_some _ _ _ (by rw[hk];rfl)).trans hk)
theorem X9{w1 w2:World}(h1:Below w.heap.size w w1)(h2:Below w1.heap.size w1 w2):Below w.heap.size w w2:=h1.trans (h2.mono h1.size)
theorem Z9(fn:Fn)(first cap:Array Value)(w:World):(Instr.makeFunc fn first cap).run Tryz.prog w=.ok (.func fn first cap) w:=rfl
def JQ(ns:List (List UInt8))(np:Nat):Int:=if 600<np then 14 else if ns.all QA=false then 7 else if ¬ns.Nodup then 8 else 0
def Q0I(ns:List (List UInt8))(k:Value):Prop:=∃i:Nat,i<=ns.length/\k=.int .i64 (i:Int)/\(ns.take i).Nodup
theorem QcL(h:ns[i]? =some s)(hl:(ns.take i).Nodup)(hs:XR (ns.take i) s=false):(ns.take (i+1)).Nodup:=by
 rw[List.take_add_one,h,Option.toList_some,List.nodup_append];refine⟨hl,by simp,fun a ha b hb=>?_⟩;rw[List.mem_singleton.1 hb];rintro rfl;unfold XR at hs;rw[List.contains_iff_mem.2 ha] at hs;cases hs
theorem QhD(h:ns[i]? =some s)(hs:XR (ns.take i) s=true):¬ns.Nodup:=by
 intro hn;have hm:s∈ns.take i:=List.contains_iff_mem.1 hs;have h1:(ns.take (i+1)).Nodup:=hn.sublist (List.take_sublist _ _);rw[List.take_add_one,h,Option.toList_some,List.nodup_append] at h1;exact h1.2.2 s hm s Qn rfl
theorem Q5P(h:600<np):JQ ns np=14:=by unfold JQ;rw[if_pos h]
theorem Qfg(h:¬600<np)(h1:ns.all QA=false):JQ ns np=7:=by unfold JQ;rw[if_neg h,if_pos h1]
theorem QeI(h:¬600<np)(h1:ns.all QA=true)(h2:¬ns.Nodup):JQ ns np=8:=by unfold JQ;rw[if_neg h,if_neg (by rw[h1];simp),if_pos h2]
theorem Qnq(h:¬600<np)(h1:ns.all QA=true)(h2:ns.Nodup):JQ ns np=0:=by unfold JQ;rw[if_neg h,if_neg (by rw[h1];simp),if_neg (by simpa using h2)]
theorem Qu0(ns:List (List UInt8))(i:Nat):((sv ns).drop (0*1)).take (i*1)=sv (ns.take i):=by simp [sv]
theorem QiF{k n:Int}{sb sn sp:Value}(hk:k<1\/4<k):
  Calls Tryz.prog 142 #[.agg #[.int .i64 k,.int .i64 n,sb,sn,sp]] w fun e w'=>e=.returned (.int .i64 5)/\Below w.heap.size w w':=by
 have HK:=Q2 (show XR [(1:Int),2,3,4] k=false by
  unfold XR
  have h1:¬k=1:=by omega
  have h2:¬k=2:=by omega
  have h3:¬k=3:=by omega
  have h4:¬k=4:=by omega
  simp [h1,h2,h3,h4])
 clear hk;have hmf:=Z9;go_enter Tryz.func142,Tryz.ntmps142;go_wp2_with fail
 refine(Qq (t:=false) [1,2,3,4] k Xa rfl rfl (by repeat(first|exact Xb _ _ _ _ _ _ _|refine Qj ?_)) Q1 (by exact HK.out)).mono ?_;rintro e w' ⟨rfl,rfl⟩;go_wp2_with fail
 go_ret;exact⟨rfl,(by repeat(first|exact Below.refl _ _|(refine Below.alloc ?_ Zu _)))⟩
end
section
variable {B g:Nat}{a b:Int}{w w':World}
def FC(w:World)(g:Nat)(a b:Int):Prop:=
 g<w.heap.size/\w.cell? ⟨g,0,none⟩=some (.int .i64 a)/\w.cell? ⟨g,1,none⟩=some (.int .i64 b)/\w.frozen? ⟨g,0,none⟩=false/\w.frozen? ⟨g,1,none⟩=false
theorem FC.new(w:World)(a b:Int):FC (w.alloc (.cells #[.int .i64 a,.int .i64 b] 32)) w.heap.size a b:=⟨by simp,by simp,by simp,by simp,by simp⟩
theorem FC.below(h:FC w g a b)(hb:Below B w w')(hg:g<B):FC w' g a b:=by
 obtain⟨z,c0,c1,f0,f1⟩:=h;exact⟨Nat.lt_of_lt_of_le z hb.size,(hb.cell (by exact hg)).trans c0,(hb.cell (by exact hg)).trans c1,(hb.frozen (by exact hg)).trans f0,(hb.frozen (by exact hg)).trans f1⟩
theorem FC.on(h:FC w g a b)(hb:Below w.heap.size w w'):FC w' g a b:=h.below hb h.1
theorem FC.alloc{w:World}{g:Nat}{a b:Int}(h:FC w g a b)(o:Obj):FC (w.alloc o) g a b:=h.on ((Below.refl _ _).alloc Xr o)
theorem FC.drew(h:FC w g a b):FC w.drew g a b:=h
theorem FC.far{h o:Nat}{v:Value}(k:FC w h a b)(hne:g≠h):FC (w.setCell ⟨g,o,none⟩ v) h a b:=by
 obtain⟨z,c0,c1,f0,f1⟩:=k;refine⟨by simpa using z,(World.cell?_setCell_far w _ _ v (by exact hne)).trans c0,(World.cell?_setCell_far w _ _ v (by exact hne)).trans c1,?_,?_⟩
 ·rw[World.frozen?_setCell];exact f0
 ·rw[World.frozen?_setCell];exact f1
theorem FC.put(h:FC w g a b)(c d:Int):FC ((w.setCell ⟨g,0,none⟩ (.int .i64 c)).setCell ⟨g,1,none⟩ (.int .i64 d)) g c d:=by
 obtain⟨z,c0,c1,f0,f1⟩:=h;refine⟨by simpa using z,?_,?_,?_,?_⟩
 ·rw[World.cell?_setCell_other _ _ _ _ Qn];exact World.cell?_setCell_same w ⟨g,0,none⟩ _ c0
 ·exact World.cell?_setCell_same _ ⟨g,1,none⟩ _ ((World.cell?_setCell_other w ⟨g,0,none⟩ ⟨g,1,none⟩ _ Qn).trans c1)
 ·rw[World.frozen?_setCell,World.frozen?_setCell];exact f0
 ·rw[World.frozen?_setCell,World.frozen?_setCell];exact f1
theorem Z0(h:Below B w w')(hg:B<=g)(u v:Value):Below B w ((w'.setCell ⟨g,0,none⟩ u).setCell ⟨g,1,none⟩ v):=
 (h.setCell (p:=⟨g,0,none⟩) hg _).setCell (p:=⟨g,1,none⟩) hg _
theorem JN(w:World)(a:Obj):Below w.heap.size w (w.alloc a):=(Below.refl _ _).alloc Xr a
theorem Q39(w:World)(a b:Obj):Below w.heap.size w ((w.alloc a).alloc b):=(JN w a).alloc (JN w a).size b
theorem Qvt(w:World)(a b c:Obj):Below w.heap.size w (((w.alloc a).alloc b).alloc c):=(Q39 w a b).alloc (Q39 w a b).size c
theorem Kv{w1:World}(h:Below w.heap.size w w1)(o:Obj):Below w.heap.size w (w1.alloc o):=h.alloc h.size o
end
section
variable {a b k n:Int}{a0 a10 a11 a2 a3 a4 a5 a6 a7 a8 a9:Value}
structure Rl where
 name:List UInt8
 kind:Int
 bs:List UInt8
 size:Int
 big:Bool
 mn:Int
 mx:Int
 stop:Int
 count:Int
 elem:Int
 names:List (List UInt8)
 parts:List Int
def XS(k:Int):Bool:=XR [3,5,9] k
def XT(k:Int):Bool:=XR [2,4,5] k
def Z8(k:Int):Bool:=XR [2,3] k
def QE(k:Int):Bool:=XR [6,10] k
def JS(k:Int):Bool:=XR [6,9] k
def Jo(k:Int):Bool:=XR [7,8] k
def inB(n a b:Int):Bool:=decide (a<=n/\n<=b)
theorem QaP(h:a<=n/\n<=b):inB n a b=true:=decide_eq_true h
theorem Qb9(h:¬(a<=n/\n<=b)):inB n a b=false:=decide_eq_false h
theorem Xo(n a b:Int)(w:World):Calls Tryz.prog 95 #[.int .i64 n,.int .i64 a,.int .i64 b] w fun e w'=>e=.returned (.bool (inB n a b))/\w=w':=by
 by_cases h1:a<=n
 ·by_cases h2:n<=b
  ·rw[QaP ⟨h1,h2⟩]
   go_enter Tryz.func95,Tryz.ntmps95;go_wp2_with fail
   exact JH
  ·rw[Qb9 (fun h=>h2 h.2)]
   go_enter Tryz.func95,Tryz.ntmps95;go_wp2_with fail
   exact JH
 ·rw[Qb9 (fun h=>h1 h.1)]
  go_enter Tryz.func95,Tryz.ntmps95;go_wp2_with fail
  exact JH
theorem YZ{w:World}{A:Option Addr}{n c:Nat}{ks:List Int}(h:Rd w w.heap.size 1 A n (iv ks))(hn:n<=1048576):
  Calls Tryz.prog 158 #[.agg #[a0,.int .i64 k,a2,a3,a4,a5,a6,a7,a8,a9,a10,a11],.slice A n c] w fun e w'=>e=.returned (.bool (XR ks k))/\Below w.heap.size w w':=by
 have HR:=Q2 h;clear h;go_enter Tryz.func158,Tryz.ntmps158;go_wp2_with fail
 refine(Y8 (HR.out.below (JN _ _)) Q3).mono ?_;rintro e w' ⟨rfl,rfl⟩;go_wp2_with fail
 exact Q2l
theorem Yc(w:World):
  Calls Tryz.prog 123 #[.agg #[a0,.int .i64 k,a2,a3,a4,a5,a6,a7,a8,a9,a10,a11]] w fun e w'=>e=.returned (.bool (XS k))/\Below w.heap.size w w':=by
 go_enter Tryz.func123,Tryz.ntmps123;go_wp2_with fail
 refine(YZ (ks:=[3,5,9]) ?_ Q1).mono ?_
 ·have h:=Rd.lit (w.alloc (.cells #[a0,.int .i64 k,a2,a3,a4,a5,a6,a7,a8,a9,a10,a11] 65)) #[.int .i64 3,.int .i64 5,.int .i64 9] 3;rw[QB] at h;refine Rd.more h ?_
  simp
 rintro e w2 ⟨rfl,hb2⟩;go_wp2_with fail
 exact Q8Y
theorem Q0m(w:World):
  Calls Tryz.prog 124 #[.agg #[a0,.int .i64 k,a2,a3,a4,a5,a6,a7,a8,a9,a10,a11]] w fun e w'=>e=.returned (.bool (XT k))/\Below w.heap.size w w':=by
 go_enter Tryz.func124,Tryz.ntmps124;go_wp2_with fail
 refine(YZ (ks:=[2,4,5]) ?_ Q1).mono ?_
 ·have h:=Rd.lit (w.alloc (.cells #[a0,.int .i64 k,a2,a3,a4,a5,a6,a7,a8,a9,a10,a11] 65)) #[.int .i64 2,.int .i64 4,.int .i64 5] 3;rw[QB] at h;refine Rd.more h ?_
  simp
 rintro e w2 ⟨rfl,hb2⟩;go_wp2_with fail
 exact Q8Y
theorem Q1L(w:World):
  Calls Tryz.prog 125 #[.agg #[a0,.int .i64 k,a2,a3,a4,a5,a6,a7,a8,a9,a10,a11]] w fun e w'=>e=.returned (.bool (Z8 k))/\Below w.heap.size w w':=by
 go_enter Tryz.func125,Tryz.ntmps125;go_wp2_with fail
 refine(YZ (ks:=[2,3]) ?_ Q1).mono ?_
 ·have h:=Rd.lit (w.alloc (.cells #[a0,.int .i64 k,a2,a3,a4,a5,a6,a7,a8,a9,a10,a11] 65)) #[.int .i64 2,.int .i64 3] 3;rw[QB] at h;refine Rd.more h ?_
  simp
 rintro e w2 ⟨rfl,hb2⟩;go_wp2_with fail
 exact Q8Y
theorem Q01(w:World):
  Calls Tryz.prog 126 #[.agg #[a0,.int .i64 k,a2,a3,a4,a5,a6,a7,a8,a9,a10,a11]] w fun e w'=>e=.returned (.bool (QE k))/\Below w.heap.size w w':=by
 go_enter Tryz.func126,Tryz.ntmps126;go_wp2_with fail
 refine(YZ (ks:=[6,10]) ?_ Q1).mono ?_
 ·have h:=Rd.lit (w.alloc (.cells #[a0,.int .i64 k,a2,a3,a4,a5,a6,a7,a8,a9,a10,a11] 65)) #[.int .i64 6,.int .i64 10] 3;rw[QB] at h;refine Rd.more h ?_
  simp
 rintro e w2 ⟨rfl,hb2⟩;go_wp2_with fail
 exact Q8Y
theorem Q3y(w:World):
  Calls Tryz.prog 127 #[.agg #[a0,.int .i64 k,a2,a3,a4,a5,a6,a7,a8,a9,a10,a11]] w fun e w'=>e=.returned (.bool (JS k))/\Below w.heap.size w w':=by
 go_enter Tryz.func127,Tryz.ntmps127;go_wp2_with fail
 refine(YZ (ks:=[6,9]) ?_ Q1).mono ?_
 ·have h:=Rd.lit (w.alloc (.cells #[a0,.int .i64 k,a2,a3,a4,a5,a6,a7,a8,a9,a10,a11] 65)) #[.int .i64 6,.int .i64 9] 3;rw[QB] at h;refine Rd.more h ?_
  simp
 rintro e w2 ⟨rfl,hb2⟩;go_wp2_with fail
 exact Q8Y
theorem Q5t(w:World):
  Calls Tryz.prog 138 #[.agg #[a0,.int .i64 k,a2,a3,a4,a5,a6,a7,a8,a9,a10,a11]] w fun e w'=>e=.returned (.bool (Jo k))/\Below w.heap.size w w':=by
 go_enter Tryz.func138,Tryz.ntmps138;go_wp2_with fail
 refine(YZ (ks:=[7,8]) ?_ Q1).mono ?_
 ·have h:=Rd.lit (w.alloc (.cells #[a0,.int .i64 k,a2,a3,a4,a5,a6,a7,a8,a9,a10,a11] 65)) #[.int .i64 7,.int .i64 8] 3;rw[QB] at h;refine Rd.more h ?_
  simp
 rintro e w2 ⟨rfl,hb2⟩;go_wp2_with fail
 exact Q8Y
end
theorem Q3z{w:World}{p:Addr}{v:Value}(h:w.cell? p=some v):p.block<w.heap.size:=by
 unfold World.cell? at h;cases hb:w.heap[p.block]? with
 |none=>rw[hb] at h;cases h
 |some o=>exact(Array.getElem?_eq_some_iff.1 hb).1
def Up(w:World):Type:={ w':World // Below w.heap.size w w' }
instance (w:World):Nonempty (Up w):=⟨⟨w,Below.refl _ _⟩⟩
def Up.w{w:World}(x:Up w):World:=x.1
theorem Up.b{w:World}(x:Up w):Below w.heap.size w x.w:=x.2
theorem Up.cell{w:World}{q:Addr}{v:Value}(h:w.cell? q=some v)(x:Up w):x.w.cell? q=some v:=(x.b.cell (Q3z h)).trans h
theorem Up.next{w w':World}(x:Up w)(h:Below x.w.heap.size x.w w'):∃y:Up w,w'=y.w:=⟨⟨w',X9 x.b h⟩,rfl⟩
theorem Up.start(w:World):∃y:Up w,w=y.w:=⟨⟨w,Below.refl _ _⟩,rfl⟩
theorem Q7P{P:Program}{ops:Array Oper}{C:World->Prop}{QQ:Act->Prop}{Q:Exit->Act->World->Prop}(hQ:∀a w,C w->QQ a->Q .normal a w):∀(l:List Oper) (a:Act) (w:World),C w->wpQuiet P ops C QQ l a->wpList P ops Q l a w:=by
 intro l;induction l with
 |nil=>intro a w hC h;exact hQ a w hC h
 |cons o rest ih=>
  intro a w hC h;refine wpList_step fun K hK=>?_;unfold wpQuiet at h;by_cases hw:Region.wanted o (yielded ops a.tmps)=true
  ·rw[if_pos hw] at h ⊢;exact Oper.wp_of_quiet hC (fun a' w' hC' h'=>hK a' w' (ih a' w' hC' h')) h
  ·rw[if_neg hw] at h ⊢;exact hK _ _ (ih _ w hC h)
theorem Calls.up{P:Program}{f:FuncId}{args:Array Value}{w:World}{x:Up w}{v:Value}(h:Calls P f args x.w fun e w'=>e=.returned v/\Below x.w.heap.size x.w w'):Calls P f args x.w fun e w''=>e=.returned v/\∃y:Up w,w''=y.w:=
 h.mono fun _ w' ⟨he,hb⟩=>⟨he,⟨w',X9 x.b hb⟩,rfl⟩
theorem Qcg{P:Program}{Q:Exit->Act->World->Prop}{id:Nat}{a:Act}{w:World}{l:List Oper}(y:Up w)
  (h:wpQuiet P l.toArray (fun w'=>∃x:Up w,w'=x.w) (fun a'=>∀w',(∃x:Up w,w'=x.w)->Q .normal a' w') l a):(Code.region id l.toArray false).wp P Q a y.w:=
 wp_region_lit (Q7P (fun a w' hC h=>h w' hC) l a y.w ⟨y,rfl⟩ h)
theorem Qid{P:Program}{ops:Array Oper}{C:World->Prop}{Q:Act->Prop}(J:Act->Prop):∀(n:Nat) (l:List Oper) (a:Act),wpQuiet P ops C J (l.take n) a->(∀a',J a'->wpQuiet P ops C Q (l.drop n) a')->wpQuiet P ops C Q l a:=by
 intro n;induction n with
 |zero=>intro l a h1 h2;rw[List.take_zero] at h1;rw[List.drop_zero] at h2;exact h2 a h1
 |succ n ih=>
  intro l a h1 h2;cases l with
  |nil=>exact h2 a h1
  |cons o l=>
   unfold wpQuiet at h1 ⊢;rw[List.take_succ_cons] at h1;split
   ·rename_i hw
    simp only[hw,if_true] at h1;exact Oper.quiet_mono (fun a' h'=>ih l a' h' h2) h1
   ·rename_i hw
    simp only[hw] at h1;exact ih l _ h1 h2
theorem Q7O{w:World}{b0 b1 b2 b3 b4 b5 b6 b7 b8 b9 b10 b11:Value}:∀(j:Nat) (u:Value),[b0,b1,b2,b3,b4,b5,b6,b7,b8,b9,b10,b11][j]? =some u->(w.alloc (.cells #[b0,b1,b2,b3,b4,b5,b6,b7,b8,b9,b10,b11] 65)).cell? ⟨w.heap.size,j,none⟩=some u:=by
 intro j u hu;rw[cell_of_row _ w.heap.size j _ 65 (0,0) (heap_alloc_new w _)];simpa using hu
section
variable {A:Option Addr}{B c g i n:Nat}{F:List Rl}{r:Rl}{s y:ByteArray}{sb sn sp:Value}{w w':World}
def KI(w:World)(B:Nat)(r:Rl)(sb sn sp:Value):Prop:=
 ∃Ab nb cb An nn cn Ap np cp,sb=.slice Ab nb cb/\sn=.slice An nn cn/\sp=.slice Ap np cp/\nb<=cb/\nn<=cn/\np<=cp/\Rd w B 1 Ab nb (bv r.bs)/\Rd w B 1 An nn (sv r.names)/\Rd w B 1 Ap np (iv r.parts)
def Ky(w:World)(b o:Nat)(r:Rl)(sb sn sp:Value):Prop:=
 w.cell? ⟨b,o,none⟩=some (.string ⟨r.name.toArray⟩)/\w.cell? ⟨b,o+1,none⟩=some (.int .i64 r.kind)/\w.cell? ⟨b,o+2,none⟩=some sb/\w.cell? ⟨b,o+3,none⟩=some (.int .i64 r.size)/\w.cell? ⟨b,o+4,none⟩=some (.bool r.big)/\w.cell? ⟨b,o+5,none⟩=some (.int .i64 r.mn)/\
 w.cell? ⟨b,o+6,none⟩=some (.int .i64 r.mx)/\w.cell? ⟨b,o+7,none⟩=some (.int .i64 r.stop)/\w.cell? ⟨b,o+8,none⟩=some (.int .i64 r.count)/\w.cell? ⟨b,o+9,none⟩=some (.int .i64 r.elem)/\w.cell? ⟨b,o+10,none⟩=some sn/\w.cell? ⟨b,o+11,none⟩=some sp
def Qtd(w:World)(B:Nat)(v:Value)(r:Rl):Prop:=
 ∃sb sn sp,v=.agg #[.string ⟨r.name.toArray⟩,.int .i64 r.kind,sb,.int .i64 r.size,.bool r.big,.int .i64 r.mn,.int .i64 r.mx,.int .i64 r.stop,.int .i64 r.count,.int .i64 r.elem,sn,sp]/\KI w B r sb sn sp
def QS(w:World)(B:Nat)(A:Option Addr)(n:Nat)(F:List Rl):Prop:=
 F.length=n/\(0<n->∃b o,A=some ⟨b,o,none⟩/\b<B/\∀i r,F[i]? =some r->∃sb sn sp,Ky w b (o+i*12) r sb sn sp/\KI w B r sb sn sp)
theorem KI.below{w w':World}{B:Nat}{r:Rl}{sb sn sp:Value}(h:KI w B r sb sn sp)(hb:Below B w w'):KI w' B r sb sn sp:=by
 obtain⟨Ab,nb,cb,An,nn,cn,Ap,np,cp,h1,h2,h3,h4,h5,h6,h7,h8,h9⟩:=h;exact⟨Ab,nb,cb,An,nn,cn,Ap,np,cp,h1,h2,h3,h4,h5,h6,h7.below hb,h8.below hb,h9.below hb⟩
theorem KI.more{w:World}{B B':Nat}{r:Rl}{sb sn sp:Value}(h:KI w B r sb sn sp)(hB:B<=B'):KI w B' r sb sn sp:=by
 obtain⟨Ab,nb,cb,An,nn,cn,Ap,np,cp,h1,h2,h3,h4,h5,h6,h7,h8,h9⟩:=h;exact⟨Ab,nb,cb,An,nn,cn,Ap,np,cp,h1,h2,h3,h4,h5,h6,h7.more hB,h8.more hB,h9.more hB⟩
theorem KI.on(h:KI w w.heap.size r sb sn sp)(hb:Below w.heap.size w w'):KI w' w'.heap.size r sb sn sp:=(h.below hb).more hb.size
theorem Qtd.on{w w':World}{v:Value}{r:Rl}(h:Qtd w w.heap.size v r)(hb:Below w.heap.size w w'):Qtd w' w'.heap.size v r:=by
 obtain⟨sb,sn,sp,e,h⟩:=h;exact⟨sb,sn,sp,e,h.on hb⟩
theorem Ky.below{b o:Nat}(h:Ky w b o r sb sn sp)(hb:Below B w w')(hB:b<B):Ky w' b o r sb sn sp:=by
 obtain⟨h0,h1,h2,h3,h4,h5,h6,h7,h8,h9,h10,h11⟩:=h;exact⟨(hb.cell Ka).trans h0,(hb.cell Ka).trans h1,(hb.cell Ka).trans h2,(hb.cell Ka).trans h3,(hb.cell Ka).trans h4,(hb.cell Ka).trans h5,(hb.cell Ka).trans h6,(hb.cell Ka).trans h7,(hb.cell Ka).trans h8,(hb.cell Ka).trans h9,(hb.cell Ka).trans h10,(hb.cell Ka).trans h11⟩
theorem QS.on{w w':World}{A:Option Addr}{n:Nat}{F:List Rl}(h:QS w w.heap.size A n F)(hb:Below w.heap.size w w'):QS w' w'.heap.size A n F:=
 ⟨h.1,fun h0=>by
  obtain⟨b,o,e,hB,hc⟩:=h.2 h0;refine⟨b,o,e,Nat.lt_of_lt_of_le hB hb.size,fun i r hr=>?_⟩;obtain⟨sb,sn,sp,h1,h2⟩:=hc i r hr
  exact⟨sb,sn,sp,h1.below hb hB,h2.on hb⟩⟩
theorem QS.at_(h:QS w B A n F)(hi:i<n):∃b o r sb sn sp,A=some ⟨b,o,none⟩/\b<B/\F[i]? =some r/\Ky w b (o+i*12) r sb sn sp/\KI w B r sb sn sp:=by
 obtain⟨b,o,e,hB,hc⟩:=h.2 Q3;have hlen:i<F.length:=by rw[h.1];exact hi
 have hr:F[i]? =some F[i]:=List.getElem?_eq_getElem hlen;obtain⟨sb,sn,sp,h1,h2⟩:=hc i _ hr;exact⟨b,o,_,sb,sn,sp,e,hB,hr,h1,h2⟩
def Vd(F:List Rl)(s:List UInt8):Int:=match F.findIdx? (fun r=>r.name==s) with|some i=>(i:Int)|none=>-1
def Qsz(F:List Rl)(s:List UInt8)(w:World)(e:Ending)(w':World):Prop:=e=.returned (.int .i64 (Vd F s))/\Below w.heap.size w w'
def Qv4(F:List Rl)(s:List UInt8)(w:World)(k:Value)(wr:World):Prop:=∃i:Nat,i<=F.length/\k=.int .i64 (i:Int)/\(∀j r,j<i->F[j]? =some r->¬r.name=s)/\Below w.heap.size w wr
theorem Q43{s:List UInt8}(h:F[i]? =some r)(hn:r.name=s)(hl:∀j r,j<i->F[j]? =some r->¬r.name=s):Vd F s=(i:Int):=by
 unfold Vd;have:F.findIdx? (fun r=>r.name==s)=some i:=by
  rw[List.findIdx?_eq_some_iff_getElem];obtain⟨h1,h2⟩:=List.getElem?_eq_some_iff.1 h;refine⟨h1,by rw[h2];simpa using hn,fun j hj=>?_⟩;have hj':F[j]? =some F[j]:=List.getElem?_eq_getElem Q3;simpa using hl j _ hj hj'
 rw[this]
theorem Qcd{s:List UInt8}(hl:∀j r,j<F.length->F[j]? =some r->¬r.name=s):Vd F s=-1:=by
 unfold Vd;have:F.findIdx? (fun r=>r.name==s)=none:=by
  rw[List.findIdx?_eq_none_iff];intro r hr;obtain⟨j,hj,e⟩:=List.mem_iff_getElem.1 hr;have:=hl j r hj (by rw[List.getElem?_eq_getElem hj,e]);simpa using this
 rw[this]
theorem Q7R{a1 a2 a3 a4 a5 a6 a7 a8 a9 a10 a11:Value}(w:World)(hg:w.cell? ⟨g,0,none⟩=some (.string s)):
  Calls Tryz.prog 170 #[.agg #[.string y,a1,a2,a3,a4,a5,a6,a7,a8,a9,a10,a11],.pointer (some ⟨g,0,none⟩)] w fun e w'=>e=.returned (.bool (y.toList==s.toList))/\Below w.heap.size w w':=by
 have hg':=fun ob=>Qj (o:=ob) hg;go_enter Tryz.func170,Tryz.ntmps170;go_wp2_with fail
 exact Q2l
theorem Qjc(h:y.data.toList=s.data.toList):y=s:=by
 obtain⟨⟨l⟩⟩:=y;obtain⟨⟨m⟩⟩:=s;simp at h;rw[h]
theorem Q3Y(h:QS w w.heap.size A n F)(hn:n<=1048576)(hg:w.cell? ⟨g,0,none⟩=some (.string s)):
  Calls Tryz.prog 169 #[.slice A n c,.func (.func 170) #[] #[.pointer (some ⟨g,0,none⟩)]] w (Qsz F s.data.toList w):=by
 have HL:=Q2 h.1;have HR:=Q2 h;have HG:=Q2 hg;clear h hg;go_enter Tryz.func169,Tryz.ntmps169;go_wp2_with fail
 go_loopw [8] (Qv4 F s.data.toList w) (fun k _=>n - (intOf k).toNat)
 case atStart=>exact⟨0,Nat.zero_le _,rfl,fun j r hj=>absurd hj Q3,Below.refl _ _⟩
 case round=>
  obtain⟨i,hi,rfl,hf,hbw⟩:=hrel;rw[HL.out] at hi;have HF:=Q2 hf;have HB:=Q2 hbw;clear hf hbw;by_cases hlt:i<n
  ·obtain⟨b,o,r,sb,sn,sp,rfl,hb,hr,hcs,hrl⟩:=HR.out.at_ hlt;have HRR:=Q2 hr;obtain⟨c0,c1,c2,c3,c4,c5,c6,c7,c8,c9,c10,c11⟩:=hcs.below HB.out hb
   have hli:(i:Int)<(n:Int):=by omega
   have h0:(0:Int)<=(i:Int):=by omega
   clear hr hcs hrl;go_wp2_with fail
   refine(Q7R _ (Up.cell HG.out ⟨_,HB.out⟩)).mono ?_;rintro e w2 ⟨rfl,hb2⟩;have HB2:=Q2 (X9 HB.out hb2);clear hb2 c0 c1 c2 c3 c4 c5 c6 c7 c8 c9 c10 c11;by_cases hnm:r.name=s.data.toList
   ·have hx:((⟨r.name.toArray⟩:ByteArray).toList==s.toList)=true:=by
     rw[Lib.toList_data,Lib.toList_data];simpa using hnm
    rw[hx];have HE:=Q2 hnm;clear hx hnm;go_wp2_with fail
    go_ret;exact⟨by rw[Q43 HRR.out HE.out HF.out];rfl,HB2.out⟩
   ·have hx:((⟨r.name.toArray⟩:ByteArray).toList==s.toList)=false:=by
     rw[Lib.toList_data,Lib.toList_data];simpa using hnm
    rw[hx];have HE:=Q2 hnm;clear hx hnm;go_wp2_with fail
    go_roundw
    case rel=>exact⟨i+1,by rw[HL.out];omega,by go_num,fun j r' hj hr'=>by
     by_cases hji:j=i
     ·subst hji;have:=HRR.out;rw[hr'] at this
      cases this
      exact HE.out
     ·exact HF.out j r' Q3 hr',HB2.out⟩
    case measure=>simp [intOf];omega
  ·go_wp2_with fail
   go_ret;exact⟨by rw[Qcd (fun j r hj=>HF.out j r (by rw[HL.out] at hj;omega))];rfl,HB.out⟩
theorem Q5E(h:QS w w.heap.size A n F)(hn:n<=1048576):
  Calls Tryz.prog 140 #[.slice A n c,.string s] w (Qsz F s.data.toList w):=by
 have HR:=Q2 h;clear h;go_enter Tryz.func140,Tryz.ntmps140;go_wp2_with fail
 refine(Q3Y (s:=s) (g:=w.heap.size) (HR.out.on (JN _ _)) hn Qn).mono ?_;rintro e w' ⟨rfl,hb⟩;go_wp2_with fail
 go_ret;exact⟨rfl,X9 (JN _ _) hb⟩
end
section
variable {A:Option Addr}{b i:Nat}{b':Bool}{c x y:Operand}{f:FuncId}{k:IntKind}{m n:Int}{p:Addr}{t t':TypeId}{v v0 v1 v10 v11 v2 v3 v4 v5 v6 v7 v8 v9:Value}{ρ:Operand->Value}
section
variable {P:Program}{ops:Array Oper}{C:World->Prop}{Q:Act->Prop}{o:Oper}{rest:List Oper}{a:Act}
theorem QtG(hw:Region.wanted o (yielded ops a.tmps)=false)(h:wpQuiet P ops C Q rest (a.put o.dst undef)):wpQuiet P ops C Q (o::rest) a:=by
 unfold wpQuiet;rw[hw];exact h
theorem Yt(hw:Region.wanted o (yielded ops a.tmps)=true)(hv:∀w,C w->(execOp a.eval o).run P w=.ok (.value v) w)(h:wpQuiet P ops C Q rest (a.put o.dst v)):wpQuiet P ops C Q (o::rest) a:=by
 unfold wpQuiet;rw[if_pos hw];exact⟨v,fun w hC=>by unfold Oper.quietAt;rw[hv w hC];exact⟨rfl,rfl⟩,h⟩
theorem Qu5{args:Array Value}(hw:Region.wanted o (yielded ops a.tmps)=true)(hv:∀w,C w->(execOp a.eval o).run P w=.ok (.enter f args) w)(hc:∀w,C w->Calls P f args w fun e w''=>e=.returned v/\C w'')(h:wpQuiet P ops C Q rest (a.put o.dst v)):wpQuiet P ops C Q (o::rest) a:=by
 unfold wpQuiet;rw[if_pos hw];exact⟨v,fun w hC=>by unfold Oper.quietAt;rw[hv w hC];exact⟨rfl,hc w hC⟩,h⟩
theorem QhJ(ho:o.op=.move x)(hx:ρ x=v)(w:World):(execOp ρ o).run P w=.ok (.value (v)) w:=by
 simp only[execOp,ho,hx];rfl
theorem QtI(ho:o.op=.move x)(hw:Region.wanted o (yielded ops a.tmps)=true)(hx:a.eval x=v)(h:wpQuiet P ops C Q rest (a.put o.dst v)):wpQuiet P ops C Q (o::rest) a:=
 Yt hw (fun w _=>QhJ ho hx w) h
theorem Q8L(ho:o.op=.assign x)(hx:ρ x=v)(w:World):(execOp ρ o).run P w=.ok (.value (v)) w:=by
 simp only[execOp,ho,hx];rfl
theorem Qmu(ho:o.op=.assign x)(hw:Region.wanted o (yielded ops a.tmps)=true)(hx:a.eval x=v)(h:wpQuiet P ops C Q rest (a.put o.dst v)):wpQuiet P ops C Q (o::rest) a:=
 Yt hw (fun w _=>Q8L ho hx w) h
theorem Q4G(ho:o.op=.pick c x y)(hc:ρ c=.bool true)(hx:ρ x=v)(w:World):(execOp ρ o).run P w=.ok (.value (v)) w:=by
 simp [execOp,ho,hx,hc,go_sem]
theorem Qfl(ho:o.op=.pick c x y)(hw:Region.wanted o (yielded ops a.tmps)=true)(hc:a.eval c=.bool true)(hx:a.eval x=v)(h:wpQuiet P ops C Q rest (a.put o.dst v)):wpQuiet P ops C Q (o::rest) a:=
 Yt hw (fun w _=>Q4G ho hc hx w) h
theorem Q7D(ho:o.op=.pick c x y)(hc:ρ c=.bool false)(hx:ρ y=v)(w:World):(execOp ρ o).run P w=.ok (.value (v)) w:=by
 simp [execOp,ho,hx,hc,go_sem]
theorem Qj6(ho:o.op=.pick c x y)(hw:Region.wanted o (yielded ops a.tmps)=true)(hc:a.eval c=.bool false)(hx:a.eval y=v)(h:wpQuiet P ops C Q rest (a.put o.dst v)):wpQuiet P ops C Q (o::rest) a:=
 Yt hw (fun w _=>Q7D ho hc hx w) h
theorem QlE{b:Bool}(ho:o.op=.unOp .not t x)(hx:ρ x=.bool b)(hb:(!b)=b')(w:World):(execOp ρ o).run P w=.ok (.value ((.bool b'))) w:=by
 subst hb;simp [execOp,ho,hx,go_sem]
theorem Qur{b:Bool}(ho:o.op=.unOp .not t x)(hw:Region.wanted o (yielded ops a.tmps)=true)(hx:a.eval x=.bool b)(hb:(!b)=b')(h:wpQuiet P ops C Q rest (a.put o.dst (.bool b'))):wpQuiet P ops C Q (o::rest) a:=
 Yt hw (fun w _=>QlE ho hx hb w) h
theorem Qnk{b:Bool}(ho:o.op=.binOp .eql t x y t')(hx:ρ x=.int k m)(hy:ρ y=.int k n)(hb:(m==n)=b)(w:World):(execOp ρ o).run P w=.ok (.value ((.bool b))) w:=by
 exact Qe7
theorem QuJ{b:Bool}(ho:o.op=.binOp .eql t x y t')(hw:Region.wanted o (yielded ops a.tmps)=true)(hx:a.eval x=.int k m)(hy:a.eval y=.int k n)(hb:(m==n)=b)(h:wpQuiet P ops C Q rest (a.put o.dst (.bool b))):wpQuiet P ops C Q (o::rest) a:=
 Yt hw (fun w _=>Qnk ho hx hy hb w) h
theorem Qts{b:Bool}(ho:o.op=.binOp .neq t x y t')(hx:ρ x=.int k m)(hy:ρ y=.int k n)(hb:(m != n)=b)(w:World):(execOp ρ o).run P w=.ok (.value ((.bool b))) w:=by
 exact Qe7
theorem QtY{b:Bool}(ho:o.op=.binOp .gtr t x y t')(hx:ρ x=.int k m)(hy:ρ y=.int k n)(hb:decide (n<m)=b)(w:World):(execOp ρ o).run P w=.ok (.value ((.bool b))) w:=by
 exact Qe7
theorem Qkk{n c:Nat}(ho:o.op=.call { callee:=.builtin .len,args:=#[x],argTypes:=#[t] })(ht:∃e,P.underlying t=some (.slice e))(hx:ρ x=.slice A n c)(w:World):(execOp ρ o).run P w=.ok (.value ((.int .i64 (n:Int)))) w:=by
 obtain⟨e,he⟩:=ht;simp [execOp,ho,hx,he,go_sem]
theorem QuL{n c:Nat}(ho:o.op=.call { callee:=.builtin .len,args:=#[x],argTypes:=#[t] })(ht:∃e,P.underlying t=some (.slice e))(hw:Region.wanted o (yielded ops a.tmps)=true)(hx:a.eval x=.slice A n c)(h:wpQuiet P ops C Q rest (a.put o.dst (.int .i64 (n:Int)))):wpQuiet P ops C Q (o::rest) a:=
 Yt hw (fun w _=>Qkk ho ht hx w) h
end
section
variable {ops:Array Oper}{C:World->Prop}{Q:Act->Prop}{o:Oper}{rest:List Oper}{a:Act}
theorem Ql9(ho:o.op=.fieldAddr 65 x i)(hi:i<12)(hx:ρ x=.pointer (some ⟨b,0,none⟩))(w:World):(execOp ρ o).run Tryz.prog w=.ok (.value ((.pointer (some ⟨b,i,none⟩)))) w:=by
 rcases (show i=0\/i=1\/i=2\/i=3\/i=4\/i=5\/i=6\/i=7\/i=8\/i=9\/i=10\/i=11 by omega) with rfl|rfl|rfl|rfl|rfl|rfl|rfl|rfl|rfl|rfl|rfl|rfl<;>simp [execOp,ho,hx,go_sem]
theorem Qpw(ho:o.op=.fieldAddr 65 x i)(hi:i<12)(hw:Region.wanted o (yielded ops a.tmps)=true)(hx:a.eval x=.pointer (some ⟨b,0,none⟩))(h:wpQuiet Tryz.prog ops C Q rest (a.put o.dst (.pointer (some ⟨b,i,none⟩)))):wpQuiet Tryz.prog ops C Q (o::rest) a:=
 Yt hw (fun w _=>Ql9 ho hi hx w) h
theorem Qcs(ho:o.op=.load 3 x)(hx:ρ x=.pointer (some p))(w:World)(hc:w.cell? p=some v):(execOp ρ o).run Tryz.prog w=.ok (.value v) w:=by
 exact Qdr
theorem Qem(ho:o.op=.load 3 x)(hw:Region.wanted o (yielded ops a.tmps)=true)(hx:a.eval x=.pointer (some p))(hc:∀w,C w->w.cell? p=some v)(h:wpQuiet Tryz.prog ops C Q rest (a.put o.dst v)):wpQuiet Tryz.prog ops C Q (o::rest) a:=
 Yt hw (fun w hC=>Qcs ho hx w (hc w hC)) h
theorem Qau(ho:o.op=.load 4 x)(hx:ρ x=.pointer (some p))(w:World)(hc:w.cell? p=some v):(execOp ρ o).run Tryz.prog w=.ok (.value v) w:=by
 exact Qdr
theorem Qd0(ho:o.op=.load 4 x)(hw:Region.wanted o (yielded ops a.tmps)=true)(hx:a.eval x=.pointer (some p))(hc:∀w,C w->w.cell? p=some v)(h:wpQuiet Tryz.prog ops C Q rest (a.put o.dst v)):wpQuiet Tryz.prog ops C Q (o::rest) a:=
 Yt hw (fun w hC=>Qau ho hx w (hc w hC)) h
theorem Q8j(ho:o.op=.load 25 x)(hx:ρ x=.pointer (some p))(w:World)(hc:w.cell? p=some v):(execOp ρ o).run Tryz.prog w=.ok (.value v) w:=by
 exact Qdr
theorem Qb5(ho:o.op=.load 25 x)(hw:Region.wanted o (yielded ops a.tmps)=true)(hx:a.eval x=.pointer (some p))(hc:∀w,C w->w.cell? p=some v)(h:wpQuiet Tryz.prog ops C Q rest (a.put o.dst v)):wpQuiet Tryz.prog ops C Q (o::rest) a:=
 Yt hw (fun w hC=>Q8j ho hx w (hc w hC)) h
theorem Q5v(ho:o.op=.load 27 x)(hx:ρ x=.pointer (some p))(w:World)(hc:w.cell? p=some v):(execOp ρ o).run Tryz.prog w=.ok (.value v) w:=by
 exact Qdr
theorem Q6i(ho:o.op=.load 27 x)(hw:Region.wanted o (yielded ops a.tmps)=true)(hx:a.eval x=.pointer (some p))(hc:∀w,C w->w.cell? p=some v)(h:wpQuiet Tryz.prog ops C Q rest (a.put o.dst v)):wpQuiet Tryz.prog ops C Q (o::rest) a:=
 Yt hw (fun w hC=>Q5v ho hx w (hc w hC)) h
theorem QaU(ho:o.op=.load 48 x)(hx:ρ x=.pointer (some p))(w:World)(hc:w.cell? p=some v):(execOp ρ o).run Tryz.prog w=.ok (.value v) w:=by
 exact Qdr
theorem Qc1(ho:o.op=.load 48 x)(hw:Region.wanted o (yielded ops a.tmps)=true)(hx:a.eval x=.pointer (some p))(hc:∀w,C w->w.cell? p=some v)(h:wpQuiet Tryz.prog ops C Q rest (a.put o.dst v)):wpQuiet Tryz.prog ops C Q (o::rest) a:=
 Yt hw (fun w hC=>QaU ho hx w (hc w hC)) h
theorem QaW(ho:o.op=.load 65 x)(hx:ρ x=.pointer (some ⟨b,0,none⟩))(w:World)(h0:w.cell? ⟨b,0,none⟩=some v0)(h1:w.cell? ⟨b,1,none⟩=some v1)(h2:w.cell? ⟨b,2,none⟩=some v2)(h3:w.cell? ⟨b,3,none⟩=some v3)(h4:w.cell? ⟨b,4,none⟩=some v4)(h5:w.cell? ⟨b,5,none⟩=some v5)(h6:w.cell? ⟨b,6,none⟩=some v6)(h7:w.cell? ⟨b,7,none⟩=some v7)(h8:w.cell? ⟨b,8,none⟩=some v8)(h9:w.cell? ⟨b,9,none⟩=some v9)(h10:w.cell? ⟨b,10,none⟩=some v10)(h11:w.cell? ⟨b,11,none⟩=some v11):
  (execOp ρ o).run Tryz.prog w=.ok (.value (.agg #[v0,v1,v2,v3,v4,v5,v6,v7,v8,v9,v10,v11])) w:=by
 simp [execOp,ho,hx,h0,h1,h2,h3,h4,h5,h6,h7,h8,h9,h10,h11,go_sem]
def YR(C:World->Prop)(b:Nat)(v0 v1 v2 v3 v4 v5 v6 v7 v8 v9 v10 v11:Value):Prop:=∀w,C w->∀(j:Nat) (u:Value),[v0,v1,v2,v3,v4,v5,v6,v7,v8,v9,v10,v11][j]? =some u->w.cell? ⟨b,j,none⟩=some u
theorem QbM(hr:YR C b v0 v1 v2 v3 v4 v5 v6 v7 v8 v9 v10 v11)(ho:o.op=.load 65 x)(hw:Region.wanted o (yielded ops a.tmps)=true)(hx:a.eval x=.pointer (some ⟨b,0,none⟩))(h:wpQuiet Tryz.prog ops C Q rest (a.put o.dst (.agg #[v0,v1,v2,v3,v4,v5,v6,v7,v8,v9,v10,v11]))):wpQuiet Tryz.prog ops C Q (o::rest) a:=
 Yt hw (fun w hC=>QaW ho hx w (hr w hC 0 _ rfl) (hr w hC 1 _ rfl) (hr w hC 2 _ rfl) (hr w hC 3 _ rfl) (hr w hC 4 _ rfl) (hr w hC 5 _ rfl) (hr w hC 6 _ rfl) (hr w hC 7 _ rfl) (hr w hC 8 _ rfl) (hr w hC 9 _ rfl) (hr w hC 10 _ rfl) (hr w hC 11 _ rfl)) h
theorem Qej(hr:YR C b v0 v1 v2 v3 v4 v5 v6 v7 v8 v9 v10 v11)(ho:o.op=.load 3 x)(hw:Region.wanted o (yielded ops a.tmps)=true)(hx:a.eval x=.pointer (some ⟨b,i,none⟩))(hv:[v0,v1,v2,v3,v4,v5,v6,v7,v8,v9,v10,v11][i]? =some v)(h:wpQuiet Tryz.prog ops C Q rest (a.put o.dst v)):wpQuiet Tryz.prog ops C Q (o::rest) a:=
 Qem ho hw hx Qcy h
theorem Qbl(hr:YR C b v0 v1 v2 v3 v4 v5 v6 v7 v8 v9 v10 v11)(ho:o.op=.load 4 x)(hw:Region.wanted o (yielded ops a.tmps)=true)(hx:a.eval x=.pointer (some ⟨b,i,none⟩))(hv:[v0,v1,v2,v3,v4,v5,v6,v7,v8,v9,v10,v11][i]? =some v)(h:wpQuiet Tryz.prog ops C Q rest (a.put o.dst v)):wpQuiet Tryz.prog ops C Q (o::rest) a:=
 Qd0 ho hw hx Qcy h
theorem Qai(hr:YR C b v0 v1 v2 v3 v4 v5 v6 v7 v8 v9 v10 v11)(ho:o.op=.load 25 x)(hw:Region.wanted o (yielded ops a.tmps)=true)(hx:a.eval x=.pointer (some ⟨b,i,none⟩))(hv:[v0,v1,v2,v3,v4,v5,v6,v7,v8,v9,v10,v11][i]? =some v)(h:wpQuiet Tryz.prog ops C Q rest (a.put o.dst v)):wpQuiet Tryz.prog ops C Q (o::rest) a:=
 Qb5 ho hw hx Qcy h
theorem Q7F(hr:YR C b v0 v1 v2 v3 v4 v5 v6 v7 v8 v9 v10 v11)(ho:o.op=.load 27 x)(hw:Region.wanted o (yielded ops a.tmps)=true)(hx:a.eval x=.pointer (some ⟨b,i,none⟩))(hv:[v0,v1,v2,v3,v4,v5,v6,v7,v8,v9,v10,v11][i]? =some v)(h:wpQuiet Tryz.prog ops C Q rest (a.put o.dst v)):wpQuiet Tryz.prog ops C Q (o::rest) a:=
 Q6i ho hw hx Qcy h
theorem QcU(hr:YR C b v0 v1 v2 v3 v4 v5 v6 v7 v8 v9 v10 v11)(ho:o.op=.load 48 x)(hw:Region.wanted o (yielded ops a.tmps)=true)(hx:a.eval x=.pointer (some ⟨b,i,none⟩))(hv:[v0,v1,v2,v3,v4,v5,v6,v7,v8,v9,v10,v11][i]? =some v)(h:wpQuiet Tryz.prog ops C Q rest (a.put o.dst v)):wpQuiet Tryz.prog ops C Q (o::rest) a:=
 Qc1 ho hw hx Qcy h
theorem QuT{x:Array Operand}{ts:Array TypeId}(ho:o.op=.call { callee:=.value (.func f),args:=x,argTypes:=ts })(he:∀(args:Array Value) (w:World),(callFunc f args).run Tryz.prog w=.ok (.enter f args) w)(hw:Region.wanted o (yielded ops a.tmps)=true)(args:Array Value)(hx:x.map a.eval=args)(hc:∀w,C w->Calls Tryz.prog f args w fun e w''=>e=.returned v/\C w'')(h:wpQuiet Tryz.prog ops C Q rest (a.put o.dst v)):wpQuiet Tryz.prog ops C Q (o::rest) a:=
 Qu5 hw (fun w _=>by
  revert hx
  generalize hρ:a.eval=ρ
  have hf:ρ (.func f)=.func (.func f) #[] #[]:=by rw[<- hρ];rfl
  intro hx;subst hx
  simp [execOp,ho,hf,he,go_sem]) hc h
end
end
section
variable {a:Act}{b i:Nat}{c x y:Operand}{l:List Oper}{t:TypeId}{v v0 v1 v10 v11 v2 v3 v4 v5 v6 v7 v8 v9:Value}
abbrev Env:=List (Nat×Value)
class DQ where
 D:List Deferred
instance (priority:=low) dq0:DQ:=⟨[]⟩
structure Ag[dq:DQ](N:Nat)(E:Env)(a:Act):Prop where
 sz:a.tmps.size=N
 df:a.defers=DQ.D
 has:∀i v,E.lookup i=some v->a.tmps[i]? =some v
theorem Ag.nil[dq:DQ]{N:Nat}(h:a.tmps.size=N)(hd:a.defers=DQ.D):Ag N [] a:=⟨h,hd,fun i v h=>by cases h⟩
theorem Ag.cons[dq:DQ]{N:Nat}{E:Env}(h:Ag N E a)(hv:a.tmps[i]? =some v):Ag N ((i,v)::E) a:=
 ⟨h.sz,h.df,fun j u hu=>by
  rw[List.lookup_cons] at hu
  split at hu
  ·next hj=>
   cases hu
   rw[beq_iff_eq] at hj
   rw[hj];exact hv
  ·exact h.has j u hu⟩
theorem Ag.put[dq:DQ]{N d:Nat}{E:Env}(h:Ag N E a)(v:Value)(hd:d<N):Ag N ((d,v)::E) (a.put (some d) v):=by
 refine⟨by show (a.tmps.setIfInBounds d v).size=N;rw[Array.size_setIfInBounds];exact h.sz,h.df,fun j u hu=>?_⟩;show (a.tmps.setIfInBounds d v)[j]? =some u;rw[List.lookup_cons] at hu;split at hu
 ·next hj=>
  cases hu
  rw[beq_iff_eq] at hj;subst hj;rw[Array.getElem?_setIfInBounds];simp [h.sz,hd]
 ·next hj=>
  have hne:¬j=d:=by simpa using hj
  rw[Array.getElem?_setIfInBounds,if_neg (fun e=>hne e.symm)];exact h.has j u hu
def ev(E:Env):Operand->Option Value
 |.tmp i=>E.lookup i
 |.const v=>some v
 |_=>none
theorem Ag.eval[dq:DQ]{N:Nat}{E:Env}(h:Ag N E a)(hx:ev E x=some v):a.eval x=v:=by
 cases x with
 |tmp i=>
  show a.tmps.getD i undef=v;rw[Array.getD_eq_getD_getElem?,h.has i v hx];rfl
 |const u=>cases hx;rfl
 |global g=>cases hx
 |func f=>cases hx
def Qo(ops:Array Oper)(E:Env)(o:Oper):Option Bool:=
 match o.guard with
 |none=>some true
 |some (j,b)=>match (ops[j]?).bind (·.dst) with
  |some s=>match E.lookup s with
   |some (.bool c)=>some (c==b)
   |some (.tuple _)=>some false
   |_=>none
  |none=>none
theorem Ag.want[dq:DQ]{N:Nat}{E:Env}{ops:Array Oper}{o:Oper}{b:Bool}(h:Ag N E a)(hw:Qo ops E o=some b):Region.wanted o (yielded ops a.tmps)=b:=by
 unfold Qo at hw;unfold Region.wanted;cases hg:o.guard with
 |none=>rw[hg] at hw;cases hw;rfl
 |some p=>
  obtain⟨j,c⟩:=p;rw[hg] at hw;simp only at hw ⊢;split at hw
  ·next s hs=>
   split at hw
   ·next u hu=>
    have:=h.has s _ hu;unfold yielded;rw[hs];simp only[Option.bind_some,this];cases hw;cases u<;>cases c<;>rfl
   ·next u hu=>
    have:=h.has s _ hu;unfold yielded;rw[hs];simp only[Option.bind_some,this];cases hw;rfl
   ·cases hw
  ·cases hw
section
variable {P:Program}{ops:Array Oper}{C:World->Prop}{Q:Act->Prop}{N:Nat}{E:Env}{o:Oper}{rest:List Oper}{d:Nat}
def qE[dq:DQ](P:Program)(ops:Array Oper)(C:World->Prop)(Q:Act->Prop)(N:Nat)(E:Env)(l:List Oper):Prop:=∀a,Ag N E a->wpQuiet P ops C Q l a
theorem qE.start[dq:DQ](h:qE P ops C Q N E l)(ha:Ag N E a):wpQuiet P ops C Q l a:=h a ha
theorem qE.nil[dq:DQ](h:∀a,Ag N E a->Q a):qE P ops C Q N E []:=fun a ha=>wpQuiet_nil (h a ha)
theorem qE.cut[dq:DQ](E':Env)(n:Nat)(h1:qE P ops C (fun a=>Ag N E' a) N E (l.take n))(h2:qE P ops C Q N E' (l.drop n)):qE P ops C Q N E l:=fun a ha=>
 Qid (fun a'=>Ag N E' a') n l a (h1 a ha) (fun a' ha'=>h2 a' ha')
theorem Ag.at_[dq:DQ](h:Ag N E a)(hi:E.lookup i=some v):a.tmps[i]? =some v:=h.has i v hi
theorem Q0O[dq:DQ](hd:o.dst=some d)(hN:d<N)(hw:Qo ops E o=some false)(h:qE P ops C Q N ((d,undef)::E) rest):qE P ops C Q N E (o::rest):=fun a ha=>
 QtG Jh VA
theorem XY[dq:DQ](ho:o.op=.move x)(hd:o.dst=some d)(hN:d<N)(hw:Qo ops E o=some true)(hx:ev E x=some v)(h:qE P ops C Q N ((d,v)::E) rest):qE P ops C Q N E (o::rest):=fun a ha=>
 QtI ho Jh ZP VA
theorem Q3o[dq:DQ](ho:o.op=.assign x)(hd:o.dst=some d)(hN:d<N)(hw:Qo ops E o=some true)(hx:ev E x=some v)(h:qE P ops C Q N ((d,v)::E) rest):qE P ops C Q N E (o::rest):=fun a ha=>
 Qmu ho Jh ZP VA
theorem QV[dq:DQ](ho:o.op=.pick c x y)(hd:o.dst=some d)(hN:d<N)(hw:Qo ops E o=some true)(hc:ev E c=some (.bool true))(hx:ev E x=some v)(h:qE P ops C Q N ((d,v)::E) rest):qE P ops C Q N E (o::rest):=fun a ha=>
 Qfl ho Jh Q2j ZP VA
theorem Xe[dq:DQ](ho:o.op=.pick c x y)(hd:o.dst=some d)(hN:d<N)(hw:Qo ops E o=some true)(hc:ev E c=some (.bool false))(hx:ev E y=some v)(h:qE P ops C Q N ((d,v)::E) rest):qE P ops C Q N E (o::rest):=fun a ha=>
 Qj6 ho Jh Q2j ZP VA
theorem Qom[dq:DQ]{b:Bool}(ho:o.op=.unOp .not t x)(hd:o.dst=some d)(hN:d<N)(hw:Qo ops E o=some true)(hx:ev E x=some (.bool b))(h:qE P ops C Q N ((d,.bool (!b))::E) rest):qE P ops C Q N E (o::rest):=fun a ha=>
 Qur ho Jh ZP rfl VA
theorem Jk[dq:DQ]{t':TypeId}{k:IntKind}{m n:Int}{b:Bool}(ho:o.op=.binOp .eql t x y t')(hd:o.dst=some d)(hN:d<N)(hw:Qo ops E o=some true)(hx:ev E x=some (.int k m))(hy:ev E y=some (.int k n))(hb:(m==n)=b)(h:qE P ops C Q N ((d,.bool b)::E) rest):qE P ops C Q N E (o::rest):=fun a ha=>
 QuJ ho Jh ZP (ha.eval hy) hb VA
theorem Q6w[dq:DQ]{e:TypeId}{A:Option Addr}{n c:Nat}(ho:o.op=.call { callee:=.builtin .len,args:=#[x],argTypes:=#[t] })(ht:P.underlying t=some (.slice e))(hd:o.dst=some d)(hN:d<N)(hw:Qo ops E o=some true)(hx:ev E x=some (.slice A n c))(h:qE P ops C Q N ((d,.int .i64 (n:Int))::E) rest):qE P ops C Q N E (o::rest):=fun a ha=>
 QuL ho ⟨e,ht⟩ Jh ZP VA
end
section
variable {ops:Array Oper}{C:World->Prop}{Q:Act->Prop}{N:Nat}{E:Env}{o:Oper}{rest:List Oper}{d:Nat}
theorem XC[dq:DQ](ho:o.op=.fieldAddr 65 x i)(hi:i<12)(hd:o.dst=some d)(hN:d<N)(hw:Qo ops E o=some true)(hx:ev E x=some (.pointer (some ⟨b,0,none⟩)))(h:qE Tryz.prog ops C Q N ((d,.pointer (some ⟨b,i,none⟩))::E) rest):qE Tryz.prog ops C Q N E (o::rest):=fun a ha=>
 Qpw ho hi Jh ZP VA
theorem Xv[dq:DQ](hr:YR C b v0 v1 v2 v3 v4 v5 v6 v7 v8 v9 v10 v11)(ho:o.op=.load 65 x)(hd:o.dst=some d)(hN:d<N)(hw:Qo ops E o=some true)(hx:ev E x=some (.pointer (some ⟨b,0,none⟩)))(h:qE Tryz.prog ops C Q N ((d,.agg #[v0,v1,v2,v3,v4,v5,v6,v7,v8,v9,v10,v11])::E) rest):qE Tryz.prog ops C Q N E (o::rest):=fun a ha=>
 QbM hr ho Jh ZP VA
theorem Xn[dq:DQ](hr:YR C b v0 v1 v2 v3 v4 v5 v6 v7 v8 v9 v10 v11)(ho:o.op=.load 3 x)(hd:o.dst=some d)(hN:d<N)(hw:Qo ops E o=some true)(hx:ev E x=some (.pointer (some ⟨b,i,none⟩)))(hv:[v0,v1,v2,v3,v4,v5,v6,v7,v8,v9,v10,v11][i]? =some v)(h:qE Tryz.prog ops C Q N ((d,v)::E) rest):qE Tryz.prog ops C Q N E (o::rest):=fun a ha=>
 Qej hr ho Jh ZP hv VA
theorem Q0S[dq:DQ](hr:YR C b v0 v1 v2 v3 v4 v5 v6 v7 v8 v9 v10 v11)(ho:o.op=.load 4 x)(hd:o.dst=some d)(hN:d<N)(hw:Qo ops E o=some true)(hx:ev E x=some (.pointer (some ⟨b,i,none⟩)))(hv:[v0,v1,v2,v3,v4,v5,v6,v7,v8,v9,v10,v11][i]? =some v)(h:qE Tryz.prog ops C Q N ((d,v)::E) rest):qE Tryz.prog ops C Q N E (o::rest):=fun a ha=>
 Qbl hr ho Jh ZP hv VA
theorem Q2T[dq:DQ](hr:YR C b v0 v1 v2 v3 v4 v5 v6 v7 v8 v9 v10 v11)(ho:o.op=.load 25 x)(hd:o.dst=some d)(hN:d<N)(hw:Qo ops E o=some true)(hx:ev E x=some (.pointer (some ⟨b,i,none⟩)))(hv:[v0,v1,v2,v3,v4,v5,v6,v7,v8,v9,v10,v11][i]? =some v)(h:qE Tryz.prog ops C Q N ((d,v)::E) rest):qE Tryz.prog ops C Q N E (o::rest):=fun a ha=>
 Qai hr ho Jh ZP hv VA
theorem Q0l[dq:DQ](hr:YR C b v0 v1 v2 v3 v4 v5 v6 v7 v8 v9 v10 v11)(ho:o.op=.load 27 x)(hd:o.dst=some d)(hN:d<N)(hw:Qo ops E o=some true)(hx:ev E x=some (.pointer (some ⟨b,i,none⟩)))(hv:[v0,v1,v2,v3,v4,v5,v6,v7,v8,v9,v10,v11][i]? =some v)(h:qE Tryz.prog ops C Q N ((d,v)::E) rest):qE Tryz.prog ops C Q N E (o::rest):=fun a ha=>
 Q7F hr ho Jh ZP hv VA
theorem Q0R[dq:DQ](hr:YR C b v0 v1 v2 v3 v4 v5 v6 v7 v8 v9 v10 v11)(ho:o.op=.load 48 x)(hd:o.dst=some d)(hN:d<N)(hw:Qo ops E o=some true)(hx:ev E x=some (.pointer (some ⟨b,i,none⟩)))(hv:[v0,v1,v2,v3,v4,v5,v6,v7,v8,v9,v10,v11][i]? =some v)(h:qE Tryz.prog ops C Q N ((d,v)::E) rest):qE Tryz.prog ops C Q N E (o::rest):=fun a ha=>
 QcU hr ho Jh ZP hv VA
theorem Vo[dq:DQ]{f:FuncId}{ts:Array TypeId}{u:Value}(ho:o.op=.call { callee:=.value (.func f),args:=#[x],argTypes:=ts })(he:∀(args:Array Value) (w:World),(callFunc f args).run Tryz.prog w=.ok (.enter f args) w)(hd:o.dst=some d)(hN:d<N)(hw:Qo ops E o=some true)(hx:ev E x=some u)(hc:∀w,C w->Calls Tryz.prog f #[u] w fun e w''=>e=.returned v/\C w'')(h:qE Tryz.prog ops C Q N ((d,v)::E) rest):qE Tryz.prog ops C Q N E (o::rest):=fun a ha=>
 QuT ho he Jh #[u] (by simp [ha.eval hx]) hc VA
end
end
section
variable {P:Program}{W:World}{Q Q0:Exit->Act->World->Prop}{N:Nat}{E:Env}
def cE(P:Program)(W:World)(Q:Exit->Act->World->Prop)(N:Nat)(E:Env)(c:Code):Prop:=∀a,Ag N E a->∀x:Up W,c.wp P Q a x.w
theorem cE.go{a:Act}{c:Code}(h:cE P W Q N E c)(ha:Ag N E a)(x:Up W):c.wp P Q a x.w:=h a ha x
end
section
variable {Q:Exit->Act->World->Prop}{a:Act}{bytes size:Nat}{e t:TypeId}{o:Oper}
section
variable {P:Program}(w:World)
theorem Q6e(hT:SlT P t e size bytes)(ty:TypeId)(base:Nat)(A:Option Addr)(n c:Nat)(xs:List Value)(hown:w.ownsRow base e size (.slice A n c) n xs)
  (B:Nat) (A2:Option Addr) (m c2:Nat) (news:List Value) (hr:Rd w B size A2 m news) (h1:∀u∈news,u.oneCell'=true) (hbytes:(n+m)*bytes<=140737488355328) (hbase:base<=w.heap.size):
  ∃A' c' w',(Builtin.append_ #[t,t] ty #[.slice A n c,.slice A2 m c2]).run P w=.ok (.slice A' (n+m) c') w'/\w'.ownsRow base e size (.slice A' (n+m) c') (n+m) (xs++news)/\w.grownBy w' (Value.slice A n c).ownBlock/\Below base w w':=by
 obtain⟨i,z,hi,hz,hs,hby,hzs⟩:=hT.info;have h63:n+m<=maxLen:=by
  exact Qkz
 have hfar:∀k,(Value.slice A n c).ownBlock=some k->base<=k:=fun k hk=>(hown.lt k hk).1;rcases A2 with _|ad
 ·have hm:m=0:=by
   rcases Nat.eq_zero_or_pos m with h0|h0
   ·exact h0
   ·obtain⟨b,o,h,_⟩:=hr.2 h0
    cases h
  subst hm;have hn:=hr.empty;subst hn;refine⟨A,c,w,?_,by simpa using hown,World.grownBy.refl _ _,Below.refl _ _⟩;rcases hown.2 with ⟨hv,rfl⟩|⟨g,cap,cur,hv,_,_,hnc,_⟩
  ·simp only[Value.slice.injEq] at hv
   exact Qsa
  ·simp only[Value.slice.injEq] at hv
   obtain⟨rfl,_,rfl⟩:=hv;exact Qmq
 ·have hcells:∀j u,news[j]? =some u->w.cell? (ad.add j)=some u:=by
   intro j u hu;rcases Nat.eq_zero_or_pos m with h0|h0
   ·subst h0
    have hn:=hr.empty;subst hn;simp at hu
   ·obtain⟨b,o,h,_,hc⟩:=hr.2 h0
    injection h with h;subst h;have e:(⟨b,o,none⟩:Addr).add j=⟨b,o+j,none⟩:=by unfold Addr.add;split<;>simp_all
    rw[e];exact hc j u hu
  obtain⟨v',w',hrun,h2,h3,_⟩:=run_append_own (P:=P) w base t ty e i z size bytes hT.und hi hz hs hby hzs hT.pos _ n xs hown ad m c2 news hr.1 hcells h1 h63 hbytes hbase;obtain⟨A',c',rfl⟩:=Q8A h2;exact⟨A',c',w',hrun,h2,h3,(Below.refl _ _).grown h3 hbase hfar⟩
theorem Qqe{K:Act->World->Prop}(hT:SlT P t e size bytes)(s x:Operand)
  (ho:o.op=.call { callee:=.builtin .append,args:=#[s,x],argTypes:=#[t,t] })
  (base:Nat) (A:Option Addr) (n c:Nat) (xs:List Value) (hs:a.eval s=.slice A n c) (hown:w.ownsRow base e size (.slice A n c) n xs)
  (B:Nat) (A2:Option Addr) (m c2:Nat) (news:List Value) (hx:a.eval x=.slice A2 m c2) (hr:Rd w B size A2 m news) (h1:∀u∈news,u.oneCell'=true)
  (hbytes:(n+m)*bytes<=140737488355328) (hbase:base<=w.heap.size)
  (h:∀A' c' w',w'.ownsRow base e size (.slice A' (n+m) c') (n+m) (xs++news)->w.grownBy w' (Value.slice A n c).ownBlock->Below base w w'->K (a.put o.dst (.slice A' (n+m) c')) w'):o.wp P a w K Q:=by
 obtain⟨A',c',w',hrun,h2,h3,h4⟩:=Q6e (P:=P) w hT o.type base A n c xs hown B A2 m c2 news hr h1 hbytes hbase;refine QsG ?_;exact h A' c' w' h2 h3 h4
theorem Q5e{ops:Array Oper}{rest:List Oper}(hT:SlT P t e size bytes)(hgd:o.guard=none)(s x:Operand)
  (ho:o.op=.call { callee:=.builtin .append,args:=#[s,x],argTypes:=#[t,t] })
  (base:Nat) (A:Option Addr) (n c:Nat) (xs:List Value) (hs:a.eval s=.slice A n c) (hown:w.ownsRow base e size (.slice A n c) n xs)
  (B:Nat) (A2:Option Addr) (m c2:Nat) (news:List Value) (hx:a.eval x=.slice A2 m c2) (hr:Rd w B size A2 m news) (h1:∀u∈news,u.oneCell'=true)
  (hbytes:(n+m)*bytes<=140737488355328) (hbase:base<=w.heap.size)
  (h:∀A' c' w',w'.ownsRow base e size (.slice A' (n+m) c') (n+m) (xs++news)->w.grownBy w' (Value.slice A n c).ownBlock->Below base w w'->wpList P ops Q rest (a.put o.dst (.slice A' (n+m) c')) w'):wpList P ops Q (o::rest) a w:=
 wpList_plain hgd fun _ hK=>Qqe w hT s x ho base A n c xs hs hown B A2 m c2 news hx hr h1 hbytes hbase fun A' c' w' h2 h3 h4=>hK _ _ (h A' c' w' h2 h3 h4)
end
end
end Go.Proofs.YtphkhfdmlcnoeaaGreatDoor
