import Derived.Test.YtphkhfdmlcnoeaaGreatDoorP1
import Derived.Test.YtphkhfdmlcnoeaaGreatDoorRows
import Derived.ProofKit
import Derived.OpenShut
import Derived.ShutString
import Derived.SizedLaws
import Derived.Deep.Slices
import Derived.Lib.Bytealg
import Derived.Deep.DeepCutAuto
import Derived.Deep.RegionHeld3
namespace Go.Proofs.YtphkhfdmlcnoeaaGreatDoor
set_option linter.unusedVariables false
set_option linter.unusedSimpArgs false
set_option maxRecDepth 1000000
set_option maxHeartbeats 32000000
open Go.RowKit
def Rd(w:World)(B s:Nat)(A:Option Addr)(n:Nat)(xs:List Value):Prop:=
 xs.length=n*s/\(0<n->∃b o,A=some ⟨b,o,none⟩/\b<B/\∀j u,xs[j]? =some u->w.cell? ⟨b,o+j,none⟩=some u)
structure SlT(P:Program)(t e:TypeId)(size bytes:Nat):Prop where
 und:P.underlying t=some (.slice e)
 info:∃i z,P.info? e=some i/\i.zero=some z/\i.size=size/\i.bytes=bytes/\z.cells.size=size
 pos:0<size
 bpos:0<bytes
theorem SlT.mk'{P:Program}{t e:TypeId}{z:Value}{size bytes:Nat}(und:P.underlying t=some (.slice e))
  (h:(P.info? e).map (fun i=>(i.zero,i.size,i.bytes))=some (some z,size,bytes)) (hz:z.cells.size=size) (hp:0<size) (hb:0<bytes):SlT P t e size bytes:=by
 obtain⟨i,hi,h1,h2,h3⟩:=info_parts h;exact⟨und,⟨i,z,hi,h1,h2,h3,hz⟩,hp,hb⟩
section
variable {w w':World}{B B' s n:Nat}{A:Option Addr}{xs:List Value}
theorem Rd.nil_:Rd w B s A 0 []:=⟨by simp,fun h=>absurd h Q3⟩
theorem Rd.len(h:Rd w B 1 A n xs):xs.length=n:=by have:=h.1;omega
theorem Rd.empty(h:Rd w B s A 0 xs):xs=[]:=List.eq_nil_of_length_eq_zero (by have:=h.1;omega)
theorem Rd.keep(h:Rd w B s A n xs)(hk:∀p:Addr,p.block<B->w'.cell? p=w.cell? p):Rd w' B s A n xs:=
 ⟨h.1,fun hn=>by
  obtain⟨b,o,e,hb,hc⟩:=h.2 hn
  exact⟨b,o,e,hb,fun j u hu=>(hk _ hb).trans (hc j u hu)⟩⟩
theorem Rd.more(h:Rd w B s A n xs)(hB:B<=B'):Rd w B' s A n xs:=
 ⟨h.1,fun hn=>by
  obtain⟨b,o,e,hb,hc⟩:=h.2 hn
  exact⟨b,o,e,by omega,hc⟩⟩
theorem Rd.below(h:Rd w B s A n xs)(hb:Below B w w'):Rd w' B s A n xs:=h.keep fun _ hp=>hb.cell hp
theorem Rd.drew(h:Rd w B s A n xs):Rd w.drew B s A n xs:=h
theorem Rd.alloc(h:Rd w B s A n xs)(hB:B<=w.heap.size)(o:Obj):Rd (w.alloc o) B s A n xs:=h.below ((Below.refl _ _).alloc hB o)
theorem Rd.at_{k:Nat}(h:Rd w B 1 A n xs)(hk:k<n):∃b o u,A=some ⟨b,o,none⟩/\b<B/\xs[k]? =some u/\w.cell? ⟨b,o+k,none⟩=some u:=by
 obtain⟨b,o,e,hb,hc⟩:=h.2 Q3;have hl:k<xs.length:=by have:=h.1;omega
 exact⟨b,o,xs[k],e,hb,List.getElem?_eq_getElem hl,hc k _ (List.getElem?_eq_getElem hl)⟩
theorem Rd.take{m:Nat}(h:Rd w B s A n xs)(hm:m<=n):Rd w B s A m (xs.take (m*s)):=by
 refine⟨by rw[List.length_take,h.1];exact Nat.min_eq_left (Nat.mul_le_mul_right _ hm),fun h0=>?_⟩;obtain⟨b,o,e,hb,hc⟩:=h.2 Q3;refine⟨b,o,e,hb,fun j u hu=>hc j u ?_⟩;rw[List.getElem?_take] at hu;split at hu
 ·exact hu
 ·cases hu
theorem Rd.drop{k cap:Nat}(h:Rd w B s A n xs)(hk:k<=n)(hc:n<=cap):
  Rd w B s (if cap=k then A else A.map (·.add (k*s))) (n - k) (xs.drop (k*s)):=by
 refine⟨by rw[List.length_drop,h.1,Nat.sub_mul],fun hn=>?_⟩;obtain⟨b,o,rfl,hb,hcell⟩:=h.2 Q3;rw[if_neg Q3];refine⟨b,o+k*s,?_,hb,fun j u hu=>?_⟩
 ·simp only[Option.map_some,Option.some.injEq]
  unfold Addr.add;split<;>simp_all
 ·rw[Nat.add_assoc]
  exact hcell _ u (by rw[<- hu,List.getElem?_drop])
theorem Rd.of_own{base:Nat}{e:TypeId}{c:Nat}(h:w.ownsRow base e s (.slice A n c) n xs):Rd w w.heap.size s A n xs:=by
 refine⟨h.1,fun hn=>?_⟩;rcases h.2 with ⟨hv,h0⟩|⟨g,cap,cur,hv,_,hg,_,_,_,ht⟩
 ·omega
 ·simp only[Value.slice.injEq] at hv
  obtain⟨rfl,_,rfl⟩:=hv;refine⟨g,0,rfl,(Array.getElem?_eq_some_iff.1 hg).1,fun j u hu=>?_⟩;rw[cell_of_row w g (0+j) cur e (0,0) hg];rw[<- ht,List.getElem?_take] at hu;split at hu
  ·simpa using hu
  ·cases hu
theorem Rd.one(w:World)(u:Value)(e:TypeId):Rd (w.alloc (.cells #[u] e)) (w.heap.size+1) 1 (some ⟨w.heap.size,0,none⟩) 1 [u]:=by
 refine⟨rfl,fun _=>⟨_,_,rfl,by omega,fun j x hx=>?_⟩⟩;match j,hx with
 |0,hx=>simp at hx;subst hx;simp
end
def JQ(A:Option Addr)(c k s:Nat):Option Addr:=if c=k then A else A.map (·.add (k*s))
theorem Rd.cut{w:World}{B s n:Nat}{A:Option Addr}{xs:List Value}{k m c:Nat}(h:Rd w B s A n xs)(hk:k+m<=n)(hc:n<=c):Rd w B s (JQ A c k s) m ((xs.drop (k*s)).take (m*s)):=by
 exact(h.drop (k:=k) (cap:=c) Q3 hc).take Q3
theorem Qpg{P:Program}{t e:TypeId}{size bytes:Nat}(hT:SlT P t e size bytes)(A:Option Addr)(n c l h:Nat)(h1:l<=h)(h2:h<=c)(w:World):
  (Instr.sliceAt t (.slice A n c) (some (.int .i64 (l:Int))) (some (.int .i64 (h:Int))) none).run P w=.ok (.slice (JQ A c l size) (h - l) (c - l)) w:=by
 obtain⟨i,z,hi,hz,hs,hby,hzs⟩:=hT.info;have he:P.elem t=e:=by simp [Program.elem,hT.und]
 have ht:P.underlying t=some (.slice (P.elem t)):=by rw[he];exact hT.und
 rw[run_sliceAt_slice w t _ _ _ _ ht,run_slice_lh w t A n c ht .i64 .i64 l h Q3 Q3 Q3,he];exact Qeg
theorem Q49{P:Program}{t e:TypeId}{size bytes:Nat}(hT:SlT P t e size bytes)(A:Option Addr)(n c h:Nat)(h2:h<=c)(w:World):
  (Instr.sliceAt t (.slice A n c) none (some (.int .i64 (h:Int))) none).run P w=.ok (.slice (JQ A c 0 size) h c) w:=by
 obtain⟨i,z,hi,hz,hs,hby,hzs⟩:=hT.info;have he:P.elem t=e:=by simp [Program.elem,hT.und]
 have ht:P.underlying t=some (.slice (P.elem t)):=by rw[he];exact hT.und
 rw[run_sliceAt_slice w t _ _ _ _ ht,run_slice_h w t A n c ht .i64 h Q3 Q3,he];exact Qeg
theorem QiX{P:Program}{t e:TypeId}{size bytes:Nat}(hT:SlT P t e size bytes)(A:Option Addr)(n c l:Nat)(h1:l<=n)(w:World):
  (Instr.sliceAt t (.slice A n c) (some (.int .i64 (l:Int))) none none).run P w=.ok (.slice (JQ A c l size) (n - l) (c - l)) w:=by
 obtain⟨i,z,hi,hz,hs,hby,hzs⟩:=hT.info;have he:P.elem t=e:=by simp [Program.elem,hT.und]
 have ht:P.underlying t=some (.slice (P.elem t)):=by rw[he];exact hT.und
 rw[run_sliceAt_slice w t _ _ _ _ ht,run_slice_l w t A n c ht .i64 l Q3 Q3,he];exact Qeg
theorem Q8m{w:World}{base:Nat}{e:TypeId}{s:Nat}{v:Value}{n:Nat}{xs:List Value}(h:w.ownsRow base e s v n xs):∃A c,v=.slice A n c:=by
 rcases h.2 with ⟨rfl,rfl⟩|⟨g,cap,cur,rfl,_⟩
 ·exact⟨_,_,rfl⟩
 ·exact⟨_,_,rfl⟩
theorem QgH{w:World}{base:Nat}{e:TypeId}{s:Nat}{A:Option Addr}{n m c:Nat}{xs:List Value}(h:w.ownsRow base e s (.slice A m c) n xs):n<=c/\c<=maxLen:=by
 rcases h.2 with ⟨hv,rfl⟩|⟨g,cap,cur,hv,_,_,h1,h2,_⟩
 ·simp only[Value.slice.injEq] at hv
  obtain⟨_,_,rfl⟩:=hv;exact⟨Nat.le_refl _,Nat.zero_le _⟩
 ·simp only[Value.slice.injEq] at hv
  obtain⟨_,_,rfl⟩:=hv;exact⟨h1,h2⟩
theorem ZQ{w w':World}{base B:Nat}{e:TypeId}{s:Nat}{v:Value}{n:Nat}{xs:List Value}(h:w.ownsRow base e s v n xs)(hb:Below B w w')(hB:w.heap.size<=B):w'.ownsRow base e s v n xs:=by
 refine⟨h.1,?_⟩;rcases h.2 with hn|⟨g,cap,cur,rfl,hg,hh,r⟩
 ·exact .inl hn
 ·exact .inr ⟨g,cap,cur,rfl,hg,by rw[hb.block g (Nat.lt_of_lt_of_le (Array.getElem?_eq_some_iff.1 hh).1 hB)];exact hh,r⟩
theorem JL{w:World}{base base':Nat}{e:TypeId}{s:Nat}{v:Value}{n:Nat}{xs:List Value}(h:w.ownsRow base e s v n xs)(hb:base'<=base):w.ownsRow base' e s v n xs:=by
 refine⟨h.1,?_⟩;rcases h.2 with hn|⟨g,cap,cur,rfl,hg,r⟩
 ·exact .inl hn
 ·exact .inr ⟨g,cap,cur,rfl,by omega,r⟩
section
variable {P:Program}(w:World)
theorem Qq4{t e:TypeId}{size bytes:Nat}(hT:SlT P t e size bytes)(ty:TypeId)(base:Nat)(A:Option Addr)(n c:Nat)(xs:List Value)(hown:w.ownsRow base e size (.slice A n c) n xs)
  (B:Nat) (A2:Option Addr) (m c2:Nat) (news:List Value) (hr:Rd w B size A2 m news) (h1:∀u∈news,u.oneCell'=true) (hbytes:(n+m)*bytes<=140737488355328) (hbase:base<=w.heap.size):
  ∃A' c' w',(Builtin.append_ #[t,t] ty #[.slice A n c,.slice A2 m c2]).run P w=.ok (.slice A' (n+m) c') w'/\w'.ownsRow base e size (.slice A' (n+m) c') (n+m) (xs++news)/\Below base w w':=by
 obtain⟨i,z,hi,hz,hs,hby,hzs⟩:=hT.info;have h63:n+m<=maxLen:=by
  exact Qn7
 have hfar:∀k,(Value.slice A n c).ownBlock=some k->base<=k:=fun k hk=>(hown.lt k hk).1;rcases A2 with _|ad
 ·have hm:m=0:=by
   rcases Nat.eq_zero_or_pos m with h0|h0
   ·exact h0
   ·obtain⟨b,o,h,_⟩:=hr.2 h0
    cases h
  subst hm;have hn:=hr.empty;subst hn;refine⟨A,c,w,?_,by simpa using hown,Below.refl _ _⟩;rcases hown.2 with ⟨hv,rfl⟩|⟨g,cap,cur,hv,_,_,hnc,_⟩
  ·simp only[Value.slice.injEq] at hv
   exact QsJ
  ·simp only[Value.slice.injEq] at hv
   obtain⟨rfl,_,rfl⟩:=hv;exact QlZ
 ·have hcells:∀j u,news[j]? =some u->w.cell? (ad.add j)=some u:=by
   intro j u hu;rcases Nat.eq_zero_or_pos m with h0|h0
   ·subst h0
    have hn:=hr.empty;subst hn;simp at hu
   ·obtain⟨b,o,h,_,hc⟩:=hr.2 h0
    injection h with h;subst h;have e:(⟨b,o,none⟩:Addr).add j=⟨b,o+j,none⟩:=by unfold Addr.add;split<;>simp_all
    rw[e];exact hc j u hu
  obtain⟨v',w',hrun,h2,h3,_⟩:=run_append_own (P:=P) w base t ty e i z size bytes hT.und hi hz hs hby hzs hT.pos _ n xs hown ad m c2 news hr.1 hcells h1 h63 hbytes hbase;obtain⟨A',c',rfl⟩:=Q8m h2;exact⟨A',c',w',hrun,h2,(Below.refl _ _).grown h3 hbase hfar⟩
theorem Qve{o:Oper}{a:Act}{K:Act->World->Prop}{Q:Exit->Act->World->Prop}{t e:TypeId}{size bytes:Nat}(hT:SlT P t e size bytes)(s x:Operand)
  (ho:o.op=.call { callee:=.builtin .append,args:=#[s,x],argTypes:=#[t,t] })
  (base:Nat) (A:Option Addr) (n c:Nat) (xs:List Value) (hs:a.eval s=.slice A n c) (hown:w.ownsRow base e size (.slice A n c) n xs)
  (B:Nat) (A2:Option Addr) (m c2:Nat) (news:List Value) (hx:a.eval x=.slice A2 m c2) (hr:Rd w B size A2 m news) (h1:∀u∈news,u.oneCell'=true)
  (hbytes:(n+m)*bytes<=140737488355328) (hbase:base<=w.heap.size)
  (h:∀A' c' w',w'.ownsRow base e size (.slice A' (n+m) c') (n+m) (xs++news)->Below base w w'->K (a.put o.dst (.slice A' (n+m) c')) w'):o.wp P a w K Q:=by
 obtain⟨A',c',w',hrun,h2,h3⟩:=Qq4 (P:=P) w hT o.type base A n c xs hown B A2 m c2 news hr h1 hbytes hbase;refine QsU ?_;exact h A' c' w' h2 h3
theorem Q20{ops:Array Oper}{rest:List Oper}{o:Oper}{a:Act}{Q:Exit->Act->World->Prop}{t e:TypeId}{size bytes:Nat}(hT:SlT P t e size bytes)(hgd:o.guard=none)(s x:Operand)
  (ho:o.op=.call { callee:=.builtin .append,args:=#[s,x],argTypes:=#[t,t] })
  (base:Nat) (A:Option Addr) (n c:Nat) (xs:List Value) (hs:a.eval s=.slice A n c) (hown:w.ownsRow base e size (.slice A n c) n xs)
  (B:Nat) (A2:Option Addr) (m c2:Nat) (news:List Value) (hx:a.eval x=.slice A2 m c2) (hr:Rd w B size A2 m news) (h1:∀u∈news,u.oneCell'=true)
  (hbytes:(n+m)*bytes<=140737488355328) (hbase:base<=w.heap.size)
  (h:∀A' c' w',w'.ownsRow base e size (.slice A' (n+m) c') (n+m) (xs++news)->Below base w w'->wpList P ops Q rest (a.put o.dst (.slice A' (n+m) c')) w'):wpList P ops Q (o::rest) a w:=
 wpList_plain hgd fun _ hK=>Qve w hT s x ho base A n c xs hs hown B A2 m c2 news hx hr h1 hbytes hbase fun A' c' w' h2 h3=>hK _ _ (h A' c' w' h2 h3)
theorem XW{ops:Array Oper}{rest:List Oper}{o:Oper}{a:Act}{Q:Exit->Act->World->Prop}{t e:TypeId}{size bytes:Nat}(hT:SlT P t e size bytes)(hgd:o.guard=none)(s x:Operand)
  (ho:o.op=.call { callee:=.builtin .append,args:=#[s,x],argTypes:=#[t,t] })
  (base:Nat) (A:Option Addr) (n c:Nat) (xs:List Value) (hs:a.eval s=.slice A n c) (hown:w.ownsRow base e size (.slice A n c) n xs)
  (B:Nat) (A2:Option Addr) (m c2:Nat) (news:List Value) (hx:a.eval x=.slice A2 m c2) (hr:Rd w B size A2 m news) (h1:∀u∈news,u.oneCell'=true)
  (hbytes:(n+m)*bytes<=140737488355328) (hbase:base<=w.heap.size) {B0:Nat} {w0:World} (hb:Below B0 w0 w) (hB0:B0<=base)
  (h:∀A' c' w',w'.ownsRow base e size (.slice A' (n+m) c') (n+m) (xs++news)->Below base w w'->Below B0 w0 w'->wpList P ops Q rest (a.put o.dst (.slice A' (n+m) c')) w'):wpList P ops Q (o::rest) a w:=
 Q20 w hT hgd s x ho base A n c xs hs hown B A2 m c2 news hx hr h1 hbytes hbase fun A' c' w' h2 h3=>h A' c' w' h2 h3 (hb.trans (h3.mono hB0))
theorem Jo{ops:Array Oper}{rest:List Oper}{o:Oper}{a:Act}{Q:Exit->Act->World->Prop}{t e:TypeId}{bytes:Nat}(hT:SlT P t e 1 bytes)(hgd:o.guard=none)(s x:Operand)
  (ho:o.op=.call { callee:=.builtin .append,args:=#[s,x],argTypes:=#[t,t] })
  (base:Nat) (A:Option Addr) (n c:Nat) (xs:List Value) (hs:a.eval s=.slice A n c) (hown:w.ownsRow base e 1 (.slice A n c) n xs)
  (u:Value) (hx:a.eval x=.slice (some ⟨w.heap.size,0,none⟩) 1 1) (h1:u.oneCell'=true)
  (hbytes:(n+1)*bytes<=140737488355328) (hbase:base<=w.heap.size) {B0:Nat} {w0:World} (hb:Below B0 w0 w) (hB0:B0<=base)
  (h:∀A' c' w',w'.ownsRow base e 1 (.slice A' (n+1) c') (n+1) (xs++[u])->Below base w w'->Below B0 w0 w'->wpList P ops Q rest (a.put o.dst (.slice A' (n+1) c')) w'):wpList P ops Q (o::rest) a (w.alloc (.cells #[u] e)):=by
 have hb':Below base w (w.alloc (.cells #[u] e)):=(Below.refl _ _).alloc hbase _;exact Q20 (w.alloc (.cells #[u] e)) hT hgd s x ho base A n c xs hs (hown.alloc _) (w.heap.size+1) _ 1 1 [u] hx (Rd.one w u e) Qec hbytes (Nat.le_trans hbase hb'.size)
  fun A' c' w' h2 h3=>h A' c' w' h2 (hb'.trans h3) (hb.trans ((hb'.trans h3).mono hB0))
end
section
variable {A:Option Addr}{B c n:Nat}{acc:List UInt8}{b:UInt8}{v:Int}{w:World}
theorem slB:SlT Tryz.prog 25 5 1 1:=SlT.mk' Tryz.underlying25 (z:=.int .u8 0) Q5 rfl Q1 Q1
def bv(bs:List UInt8):List Value:=bs.map fun b=>.int .u8 (b.toNat:Int)
theorem Xr(bs:List UInt8):(bv bs).length=bs.length:=by simp [bv]
theorem Q09(a b:List UInt8):bv (a++b)=bv a++bv b:=by simp [bv]
theorem VM(bs:List UInt8):∀u∈bv bs,u.oneCell'=true:=by
 intro u hu;simp only[bv,List.mem_map] at hu;obtain⟨b,_,rfl⟩:=hu;rfl
def JP(w:World)(bs:List UInt8)(e:Ending)(w':World):Prop:=
 ∃A c,e=.returned (.slice A bs.length c)/\w'.ownsRow w.heap.size 5 1 (.slice A bs.length c) bs.length (bv bs)/\Below w.heap.size w w'
theorem QcE{base:Nat}(h:w.ownsRow base 5 1 (.slice A (acc.length+1) c) (acc.length+1) (bv acc++[.int .u8 v]))(hv:v=(b.toNat:Int)):
  w.ownsRow base 5 1 (.slice A (acc++[b]).length c) (acc++[b]).length (bv (acc++[b])):=by
 subst hv;rw[Q09,List.length_append];exact h
theorem Qj0{w0:World}(h:w.ownsRow w0.heap.size 5 1 (.slice A (acc.length+1) c) (acc.length+1) (bv acc++[.int .u8 v]))(hv:v=(b.toNat:Int))(hb:Below w0.heap.size w0 w):
  JP w0 (acc++[b]) (.returned (.slice A (acc.length+1) c)) w:=⟨A,c,by simp,QcE h hv,hb⟩
theorem QmX(acc:List UInt8)(b:UInt8):acc.length+1=(acc++[b]).length:=by simp
theorem QfM(ns:List UInt8):∀s:ByteArray,(ns.map (fun b=>((b.toNat:Nat):Int))).foldl (fun r n=>r.push (UInt8.ofNat n.toNat)) s=⟨s.data++ns.toArray⟩:=by
 induction ns with
 |nil=>intro s;simp
 |cons b ns ih=>
  intro s;simp only[List.map_cons,List.foldl_cons];rw[ih];congr 1;simp [ByteArray.push]
theorem Q9w{bs:List UInt8}(h:Rd w B 1 A n (bv bs)):
  (convert 25 9 (.slice A n c)).run Tryz.prog w=.ok (.string ⟨bs.toArray⟩) w:=by
 rw[run_convert_bytes_string w 25 9 5 A n c Tryz.underlying25 Tryz.underlying5 Tryz.underlying9];have hl:=h.len;rw[Xr] at hl;rcases A with _|ad
 ·have hn:n=0:=by
   rcases Nat.eq_zero_or_pos n with h0|h0
   ·exact h0
   ·obtain⟨b,o,e,_⟩:=h.2 h0
    cases e
  subst hn;obtain rfl:bs=[]:=List.eq_nil_of_length_eq_zero hl;rfl
 ·have hload:(loadCells ad n).run Tryz.prog w=.ok ((bs.map (fun b=>((b.toNat:Nat):Int))).map (Value.int .u8)).toArray w:=by
   have e:(bs.map (fun b=>((b.toNat:Nat):Int))).map (Value.int .u8)=bv bs:=by simp [bv]
   rw[e];have hn:n=(bv bs).length:=by rw[Xr];omega
   rw[hn];refine run_loadCells_list w ad (bv bs) ?_;intro j v hv;have hj:j<(bv bs).length:=(List.getElem?_eq_some_iff.1 hv).1;obtain⟨b,o,e,_,hc⟩:=h.2 Q3;injection e with e;subst e;have e:(⟨b,o,none⟩:Addr).add j=⟨b,o+j,none⟩:=by unfold Addr.add;split<;>simp_all
   rw[e];exact hc j v hv
  rw[run_bytesToString w ad n c _ hload,QfM];have e0:ByteArray.empty.data=#[]:=rfl;rw[e0,Array.empty_append]
theorem Q4I{B':Nat}{A':Option Addr}{n' c':Nat}{a b:List UInt8}(ha:Rd w B 1 A n (bv a))(hb:Rd w B' 1 A' n' (bv b)):
  Calls Tryz.prog 18 #[.slice A n c,.slice A' n' c'] w fun e w'=>e=.returned (.bool (a==b))/\w=w':=by
 have ra:=Q9w (c:=c) ha;have rb:=Q9w (c:=c') hb;go_enter Tryz.func18,Tryz.ntmps18;go_wp2
 exact JI
theorem K2(c i:Int)(w:World):Calls Tryz.prog 20 #[.int .i64 c,.int .i64 i] w fun e w'=>e=.returned (.agg #[.int .i64 c,.int .i64 i])/\w.alloc (.cells #[.int .i64 c,.int .i64 i] 32)=w':=by
 go_enter Tryz.func20,Tryz.ntmps20;go_wp2
 exact bodyPost_ret (v:=.agg #[.int .i64 c,.int .i64 i]) (by simp [results,Tryz.results20,go_sem]) rfl ⟨rfl,rfl⟩
theorem QiN:Tryz.prog.underlying 32=some (.struct (Tryz.prog.fieldsOf 32)):=by kernel_rfl
theorem Qjt:Tryz.prog.stoodInHeld 32=false:=by kernel_rfl
theorem QaW(d:Nat)(a b c e:Int)(w:World):(Op.equalIn (d+2) 32 (.agg #[.int .i64 a,.int .i64 b]) (.agg #[.int .i64 c,.int .i64 e])).run Tryz.prog w=.ok (a==c&&b==e) w:=by
 rw[run_equalIn_struct w (d+1) 32 _ _ QiN Qjt];go_simp
 by_cases h1:a=c<;>by_cases h2:b=e<;>simp [h1,h2]
theorem Q2y(a b c d:Int)(w:World):(binOp .neq 32 (.agg #[.int .i64 a,.int .i64 b]) (.agg #[.int .i64 c,.int .i64 d])).run Tryz.prog w=.ok (.bool (!(a==c&&b==d))) w:=by
 rw[run_neq_struct,QaW 9998];rfl
theorem Qdb(n l h:Int)(w:World):
  Calls Tryz.prog 71 #[.int .i64 n,.int .i64 l,.int .i64 h] w fun e w'=>e=.returned (.bool (decide (l<=n)&&decide (n<=h)))/\w=w':=by
 by_cases h1:l<=n
 ·have d1:decide (l<=n)=true:=by simp [h1]
  by_cases h2:n<=h
  ·have d2:decide (n<=h)=true:=by simp [h2]
   rw[d1,d2];go_enter Tryz.func71,Tryz.ntmps71;go_wp2
   exact JI
  ·have d2:decide (n<=h)=false:=by simp;omega
   rw[d1,d2];go_enter Tryz.func71,Tryz.ntmps71;go_wp2
   exact JI
 ·have d1:decide (l<=n)=false:=by simp;omega
  rw[d1];go_enter Tryz.func71,Tryz.ntmps71;go_wp2
  exact JI
end
open Go.ChangeShapes Go.WideShapes Go.ChangeAt Go.RowKit Go.Deep
theorem own:ownKnob Tryz.prog.godebug=none:=by kernel_rfl
theorem Qhh:laidOutB Tryz.prog=true:=by kernel_rfl
section
variable {H:Type}{enc:TypeId×Value->H}{W:World}{base:Nat}{v:Value}{d:DataW H}{p:List MemPlace}
theorem Zb(d:DataW H):1<=Rows.uptoBulk d:=by
 cases d with
 |lit l=>cases l<;>simp [Rows.uptoBulk]
 |nil=>simp [Rows.uptoBulk]
 |ptr d=>simp [Rows.uptoBulk]
 |slice elems spare=>simp [Rows.uptoBulk]
 |agg parts=>simp [Rows.uptoBulk]
 |iface t d=>simp [Rows.uptoBulk]
 |map entries=>simp [Rows.uptoBulk]
 |held h=>simp [Rows.uptoBulk]
theorem Qc3(l:List (DataW H)):l.length<=Rows.uptoBulkAll l:=by
 induction l with
 |nil=>simp [Rows.uptoBulkAll]
 |cons x r ih=>have:=Zb x;simp only[Rows.uptoBulkAll,List.length_cons];omega
theorem Qex{l:List (DataW H)}(hk:Rows.uptoSmall H l=true):Rows.uptoBulkAll l<=1048576:=of_decide_eq_true hk
theorem Q2k{k:IntKind}{a:Addr}{len cap:Nat}{zs:List Int}(hl:len<=cap)(hz:zs.length=cap)(hc:∀i,i<zs.length->W.cell? (a.add i)=some (.int k (zs.getD i 0))):
  Rd W W.heap.size 1 (some a) len ((zs.take len).map (Value.int k)):=by
 refine⟨by simp;omega,fun hn=>?_⟩;have h0:=hc 0 Q3;have hs:a.spot=none:=by simpa [Addr.add] using World.cell?_spot h0
 obtain⟨b,o,sp⟩:=a;simp only at hs;subst hs;refine⟨b,o,rfl,World.block_lt_of_cell? W _ (by simpa [Addr.add] using h0),fun j u hu=>?_⟩;rw[List.getElem?_map,List.getElem?_take] at hu;split at hu
 ·rename_i hj
  have hjl:j<zs.length:=by omega
  have:=hc j hjl;rw[List.getElem?_eq_getElem hjl] at hu;simp only[Option.map_some,Option.some.injEq] at hu;subst hu;have e:(⟨b,o,none⟩:Addr).add j=⟨b,o+j,none⟩:=by unfold Addr.add;split<;>simp_all
  rw[e] at this;rw[this];simp [List.getD,List.getElem?_eq_getElem hjl]
 ·simp at hu
theorem Q1k(zs:List Int)(h:∀n∈zs,(Lit.int .u8 n).wf=true):∃bs:List UInt8,bs.length=zs.length/\zs.map (Value.int .u8)=bv bs:=by
 refine⟨zs.map fun z=>UInt8.ofNat z.toNat,by simp,?_⟩;unfold bv;rw[List.map_map];refine List.map_congr_left fun z hz=>?_;have:=bounds_u8 (h z hz);have e:(UInt8.ofNat z.toNat).toNat=z.toNat:=by rw[UInt8.toNat_ofNat'];exact QaM
 simp only[Function.comp_apply,e];congr 1;omega
theorem QfA(hv:Value.okWide Tryz.prog W .any base 25 v)(h:DataW.Trod enc Tryz.prog W 0 (fun _=>true) true 25 v d p):
  ∃(A:Option Addr) (n c:Nat) (bs:List UInt8),v=.slice A n c/\Rd W W.heap.size 1 A n (bv bs)/\n<=c/\c<=maxLen/\bs.length=n/\n+1<=Rows.uptoBulk d/\
   (∀{ts:List TypeId} {ds:List (DataW H)} {j:Nat},(DataW.weightsEach Tryz.prog ts ds).all (·<=reachBytes)=true->ts[j]? =some 25->ds[j]? =some d->n<=140737488351232):=by
 obtain⟨a0,len,cap,rfl⟩:=okWide_slice Tryz.underlying25 hv;obtain⟨fuel,hf⟩:=h;rcases open_ints Tryz.underlying25 Tryz.underlying5 Q5 hf with ⟨hcs,hx⟩|⟨x,l,c,zs,hcs,_,hl,hm,hz,hx,hcell,hwz⟩
 ·simp [Value.cells] at hcs
  obtain⟨rfl,rfl,rfl⟩:=hcs;exact⟨none,0,0,[],rfl,Rd.nil_,Nat.le_refl _,by simp [maxLen],rfl,Zb d,fun _ _ _=>by omega⟩
 ·simp [Value.cells] at hcs
  obtain⟨rfl,rfl,rfl⟩:=hcs;simp only[Prod.mk.injEq] at hx;obtain⟨rfl,_⟩:=hx;have hz':zs.length=cap:=by simpa using hz
  have hr:=Q2k hl hz' hcell;obtain⟨bs,hbl,hbe⟩:=Q1k (zs.take len) Qrg;rw[hbe] at hr;have hbl':bs.length=len:=by rw[hbl,List.length_take];omega
  refine⟨_,_,_,bs,rfl,hr,hl,hm,hbl',?_,fun hsz ht hd=>?_⟩
  ·have h1:=Qkz
   exact QoH
  ·have:=sized_slice hsz ht hd Tryz.underlying25;rw[show Tryz.prog.bytesOf 5=1 by kernel_rfl] at this
   simp only[lits,List.length_map,List.length_take,List.length_drop,reachBytes] at this;omega
end
section
variable {c:UInt8}
theorem Qbl{P:Program}{f:FuncId}{args:Array Value}{w:World}{a n:Nat}{v:Value}(h:Calls P f args (w.drewN (a+n)) fun e w'=>e=.returned v/\w.drewN (a+n)=w'):Calls P f args (w.drewN (a+n)) fun e w''=>e=.returned v/\∃m,w''=w.drewN (a+m):=
 h.mono fun _ _ ⟨he,hm⟩=>⟨he,n,hm.symm⟩
theorem Q0z(w:World)(n:Nat):Below w.heap.size w (w.drewN n):=by
 induction n with
 |zero=>exact Below.refl _ _
 |succ n ih=>exact ih.drew
theorem QpR(s:ByteArray)(c:Int)(w:World):(callFunc 199 #[.string s,.int .u8 c]).run Tryz.prog w=.ok (.value (.int .i64 (Lib.indexByte s.data.toList c.toNat.toUInt8))) w:=by
 rw[run_callFunc_extern Tryz.func199 (e:=Extern.BytealgIndexByte.indexByte) Q5 Q5 Q5 Q5,Lib.run_indexByteString];rfl
theorem Q04(s:ByteArray)(c:Int)(w:World):Calls Tryz.prog 180 #[.string s,.int .u8 c] w fun e w'=>e=.returned (.int .i64 (Lib.indexByte s.data.toList c.toNat.toUInt8))/\w=w':=by
 have hr:=QpR s c;go_enter Tryz.func180,Tryz.ntmps180;go_wp2
 exact JI
theorem Vs(s:ByteArray)(c:Int)(w:World):Calls Tryz.prog 167 #[.string s,.int .u8 c] w fun e w'=>e=.returned (.int .i64 (Lib.indexByte s.data.toList c.toNat.toUInt8))/\w=w':=by
 go_enter Tryz.func167,Tryz.ntmps167;go_wp2_with fail
 refine(Q04 s c _).mono ?_;rintro e w' ⟨rfl,rfl⟩;go_wp2_with fail
 exact JI
def sgn:ByteArray:=⟨#[45,95,46]⟩
def Q2H(c:UInt8):Bool:=c==45||c==95||c==46
theorem Qjg(c:UInt8):decide (0<=Lib.indexByte sgn.data.toList c)=Q2H c:=by
 by_cases h1:c=45
 ·subst h1;decide
 ·by_cases h2:c=95
  ·subst h2;decide
  ·by_cases h3:c=46
   ·subst h3;decide
   ·have e:Q2H c=false:=by simp [Q2H,h1,h2,h3]
    rw[e];simp [sgn,Lib.indexByte,Ne.symm h1,Ne.symm h2,Ne.symm h3]
theorem Q5m(s:ByteArray)(c:UInt8)(w:World)(h:c.toNat<128):Calls Tryz.prog 188 #[.string s,.int .i32 (c.toNat:Int)] w fun e w'=>e=.returned (.int .i64 (Lib.indexByte s.data.toList c))/\w=w':=by
 have h0:(0:Int)<=(c.toNat:Int):=by omega
 have h1:(c.toNat:Int)<128:=by omega
 have HC:=Q2 (show ((c.toNat:Int).toNat).toUInt8=c by simp);go_enter Tryz.func188,Tryz.ntmps188;go_wp2_with fail
 refine(Vs s (c.toNat:Int) _).mono ?_;rintro e w' ⟨rfl,rfl⟩;rw[HC.out];go_wp2_with fail
 exact JI
theorem Q7H(w:World):Calls Tryz.prog 188 #[.string sgn,.int .i32 65533] w fun e w'=>e=.returned (.int .i64 (-1))/\Below w.heap.size w w':=by
 unfold sgn;have n0:∀ty,(Instr.next (.pointer (some ⟨w.heap.size,0,none⟩)) true ty).run Tryz.prog (w.iter ⟨#[45,95,46]⟩ 0)=.ok (.tuple #[.bool true,.int .i64 0,.int .i32 45]) (w.iter ⟨#[45,95,46]⟩ 1):=fun ty=>run_next_ascii w _ 0 ty Q1 Q1;have n1:∀ty,(Instr.next (.pointer (some ⟨w.heap.size,0,none⟩)) true ty).run Tryz.prog (w.iter ⟨#[45,95,46]⟩ 1)=.ok (.tuple #[.bool true,.int .i64 1,.int .i32 95]) (w.iter ⟨#[45,95,46]⟩ 2):=fun ty=>run_next_ascii w _ 1 ty Q1 Q1;have n2:∀ty,(Instr.next (.pointer (some ⟨w.heap.size,0,none⟩)) true ty).run Tryz.prog (w.iter ⟨#[45,95,46]⟩ 2)=.ok (.tuple #[.bool true,.int .i64 2,.int .i32 46]) (w.iter ⟨#[45,95,46]⟩ 3):=fun ty=>run_next_ascii w _ 2 ty Q1 Q1;have n3:∀ty,(Instr.next (.pointer (some ⟨w.heap.size,0,none⟩)) true ty).run Tryz.prog (w.iter ⟨#[45,95,46]⟩ 3)=.ok (.tuple #[.bool false]) (w.iter ⟨#[45,95,46]⟩ 3):=fun ty=>run_next_end w _ 3 ty Q1;go_enter Tryz.func188,Tryz.ntmps188;go_wp2_with fail
 refine wp_loop_rounds 4 ?_;rw[rounds_succ];go_wp2_with fail
 rw[rounds_succ];go_wp2_with fail
 rw[rounds_succ];go_wp2_with fail
 rw[rounds_succ];go_wp2_with fail
 go_ret;exact⟨rfl,(Below.refl _ _).alloc Xo _⟩
theorem Q7V(r:Nat)(w:World)(h:r<55296):Calls Tryz.prog 205 #[.int .i32 (r:Int)] w fun e w'=>e=.returned (.bool true)/\w=w':=by
 have h0:(0:Int)<=(r:Int):=by omega
 have h1:(r:Int)<55296:=by omega
 go_enter Tryz.func205,Tryz.ntmps205;go_wp2
 exact JI
theorem Q5F(r:Nat)(w:World)(h:57343<r)(h':r<=1114111):Calls Tryz.prog 205 #[.int .i32 (r:Int)] w fun e w'=>e=.returned (.bool true)/\w=w':=by
 have h0:(0:Int)<=(r:Int):=by omega
 have h1:¬(r:Int)<55296:=by omega
 have h2:(57343:Int)<r:=by omega
 have h3:(r:Int)<=1114111:=by omega
 go_enter Tryz.func205,Tryz.ntmps205;go_wp2
 exact JI
theorem Q9B(r:Nat)(w:World)(h:¬r<55296)(h':¬(57343<r/\r<=1114111)):Calls Tryz.prog 205 #[.int .i32 (r:Int)] w fun e w'=>e=.returned (.bool false)/\w=w':=by
 have h0:(0:Int)<=(r:Int):=by omega
 have h1:¬(r:Int)<55296:=by omega
 by_cases h4:57343<r
 ·have h2:(57343:Int)<r:=by omega
  have h3:¬(r:Int)<=1114111:=by omega
  clear h';go_enter Tryz.func205,Tryz.ntmps205;go_wp2
  exact JI
 ·have h2:¬(57343:Int)<r:=by omega
  clear h';go_enter Tryz.func205,Tryz.ntmps205;go_wp2
  exact JI
theorem Q5s(r:Nat)(w:World)(h:128<=r)(h1':¬r<55296)(h':¬(57343<r/\r<=1114111)):Calls Tryz.prog 188 #[.string sgn,.int .i32 (r:Int)] w fun e w'=>e=.returned (.int .i64 (-1))/\Below w.heap.size w w':=by
 have h0:(0:Int)<=(r:Int):=by omega
 have h1:¬(r:Int)<128:=by omega
 have h2:((r:Int)==65533)=false:=by simp;omega
 have HV:=Q2 (Q9B r w h1' h');clear h';unfold sgn;go_enter Tryz.func188,Tryz.ntmps188;go_wp2_with fail
 refine HV.out.mono ?_;rintro e w' ⟨rfl,rfl⟩;go_wp2_with fail
 go_ret;exact⟨rfl,Below.refl _ _⟩
theorem QeH(r:Nat)(h:128<=r)(hv:r<55296\/(57343<r/\r<=1114111)):(∃x y:UInt8,Utf8.encode (r:Int)=⟨#[x,y]⟩/\128<=y.toNat)\/(∃x y z:UInt8,Utf8.encode (r:Int)=⟨#[x,y,z]⟩/\128<=z.toNat)\/(∃x y z u:UInt8,Utf8.encode (r:Int)=⟨#[x,y,z,u]⟩/\128<=u.toNat):=by
 have hval:Utf8.valid (r:Int)=true:=by
  unfold Utf8.valid;simp;omega
 have key:∀n:Nat,128<=(UInt8.ofNat (128+n % 64)).toNat:=fun n=>by rw[UInt8.toNat_ofNat',Nat.mod_eq_of_lt Q3];omega
 unfold Utf8.encode;simp only[hval,if_true,Int.toNat_natCast];rw[if_neg Q3];by_cases h1:r<2048
 ·rw[if_pos h1];exact .inl ⟨_,_,rfl,key _⟩
 ·rw[if_neg h1]
  by_cases h2:r<65536
  ·rw[if_pos h2];exact .inr (.inl ⟨_,_,_,rfl,key _⟩)
  ·rw[if_neg h2];exact .inr (.inr ⟨_,_,_,_,rfl,key _⟩)
theorem QoQ(c:UInt8)(k:Nat)(h:128<=c.toNat):Lib.indexByte (sgn.extract k 3).data.toList c=-1:=by
 have key:∀l:List UInt8,(∀x∈l,x.toNat<128)->Lib.indexByte l c=-1:=by
  intro l;induction l with
  |nil=>intro _;rfl
  |cons b l ih=>
   intro hl;have h1:(b==c)=false:=by
    rw[beq_eq_false_iff_ne];rintro rfl;have:=hl b Qm;omega
   simp [Lib.indexByte,h1,ih (fun x hx=>hl x (by simp [hx]))]
 refine key _ fun x hx=>?_;have hx':x∈sgn.data.toList:=by
  have e:=Lib.extract_data sgn k 3;rw[e] at hx;exact List.mem_of_mem_drop (List.mem_of_mem_take hx)
 simp [sgn] at hx';rcases hx' with rfl|rfl|rfl<;>decide
theorem Qad(r:Nat)(S R:ByteArray)(w:World)(hS:S.size=3)(hR:R.size=2)(he:Utf8.encode (r:Int)=R)(hne:((S[1].toNat:Int) != (R[1].toNat:Int))=true)(hnone:Lib.indexByte (S.extract 2 3).data.toList R[1]=-1)(h:128<=r)(hr:¬r=65533)
  (HV:Hid (Calls Tryz.prog 205 #[.int .i32 (r:Int)] w fun e w'=>e=.returned (.bool true)/\w=w')):Calls Tryz.prog 188 #[.string S,.int .i32 (r:Int)] w fun e w'=>e=.returned (.int .i64 (-1))/\Below w.heap.size w w':=by
 have h0:(0:Int)<=(r:Int):=by omega
 have h1:¬(r:Int)<128:=by omega
 have h2:((r:Int)==65533)=false:=by simp;omega
 have HN:=Q2 hnone;have HC:=Q2 (show ((R[1].toNat:Int).toNat).toUInt8=R[1] by simp);clear hr h hnone;go_enter Tryz.func188,Tryz.ntmps188;go_wp2_with fail
 refine HV.out.mono ?_;rintro e w' ⟨rfl,rfl⟩;go_wp2_with fail
 go_step3
 go_wp2_with fail
 refine wp_loop_rounds 1 ?_;rw[rounds_succ];go_wp2_with fail
 go_step3
 go_wp2_with fail
 clear h0 h1 h2 he HV;go_quiet (fail)
 go_wp2_with fail
 go_quiet ((go_at_call 167;exact Qbl (Vs _ _ _)))
 rw[HC.out,HN.out];go_wp2_with fail
 rw[Exit.noGoto_ret];go_wp2_with fail
 rw[Exit.noGoto_ret];go_ret;exact⟨rfl,Q0z _ _⟩
theorem Qa9(r:Nat)(S R:ByteArray)(w:World)(hS:S.size=3)(hR:R.size=3)(he:Utf8.encode (r:Int)=R)(hne:((S[2].toNat:Int) != (R[2].toNat:Int))=true)(hnone:Lib.indexByte ByteArray.empty.data.toList R[2]=-1)(h:128<=r)(hr:¬r=65533)
  (HV:Hid (Calls Tryz.prog 205 #[.int .i32 (r:Int)] w fun e w'=>e=.returned (.bool true)/\w=w')):Calls Tryz.prog 188 #[.string S,.int .i32 (r:Int)] w fun e w'=>e=.returned (.int .i64 (-1))/\Below w.heap.size w w':=by
 have h0:(0:Int)<=(r:Int):=by omega
 have h1:¬(r:Int)<128:=by omega
 have h2:((r:Int)==65533)=false:=by simp;omega
 have HN:=Q2 hnone;have HC:=Q2 (show ((R[2].toNat:Int).toNat).toUInt8=R[2] by simp);clear hr h hnone;go_enter Tryz.func188,Tryz.ntmps188;go_wp2_with fail
 refine HV.out.mono ?_;rintro e w' ⟨rfl,rfl⟩;go_wp2_with fail
 go_step3
 go_wp2_with fail
 refine wp_loop_rounds 1 ?_;rw[rounds_succ];go_wp2_with fail
 go_step3
 go_wp2_with fail
 clear h0 h1 h2 he HV;go_quiet (fail)
 go_wp2_with fail
 go_quiet ((go_at_call 167;exact Qbl (Vs _ _ _)))
 rw[HC.out,HN.out];go_wp2_with fail
 rw[Exit.noGoto_ret];go_wp2_with fail
 rw[Exit.noGoto_ret];go_ret;exact⟨rfl,Q0z _ _⟩
theorem QaQ(r:Nat)(S R:ByteArray)(w:World)(hS:S.size=3)(hR:R.size=4)(he:Utf8.encode (r:Int)=R)(h:128<=r)(hr:¬r=65533)
  (HV:Hid (Calls Tryz.prog 205 #[.int .i32 (r:Int)] w fun e w'=>e=.returned (.bool true)/\w=w')):Calls Tryz.prog 188 #[.string S,.int .i32 (r:Int)] w fun e w'=>e=.returned (.int .i64 (-1))/\Below w.heap.size w w':=by
 have h0:(0:Int)<=(r:Int):=by omega
 have h1:¬(r:Int)<128:=by omega
 have h2:((r:Int)==65533)=false:=by simp;omega
 clear hr h;go_enter Tryz.func188,Tryz.ntmps188;go_wp2_with fail
 refine HV.out.mono ?_;rintro e w' ⟨rfl,rfl⟩;go_wp2_with fail
 go_step3
 go_wp2_with fail
 refine wp_loop_rounds 1 ?_;rw[rounds_succ];go_wp2_with fail
 rw[Exit.noGoto_ret];go_ret;exact⟨rfl,Below.refl _ _⟩
theorem QhH(k:Nat)(hk:k<sgn.size)(y:UInt8)(hy:128<=y.toNat):(((sgn[k]).toNat:Int) != (y.toNat:Int))=true:=by
 have hk3:k<3:=hk;rw[bne_iff_ne];have:sgn[k].toNat<128:=by
  match k,hk,hk3 with
  |0,_,_=>exact(show (45:UInt8).toNat<128 by decide)
  |1,_,_=>exact(show (95:UInt8).toNat<128 by decide)
  |2,_,_=>exact(show (46:UInt8).toNat<128 by decide)
 omega
theorem Q69(r:Nat)(w:World)(h:128<=r):Calls Tryz.prog 188 #[.string sgn,.int .i32 (r:Int)] w fun e w'=>e=.returned (.int .i64 (-1))/\Below w.heap.size w w':=by
 by_cases hr:r=65533
 ·subst hr;exact Q7H w
 ·by_cases hv:r<55296\/(57343<r/\r<=1114111)
  ·have HV:=Q2 (show Calls Tryz.prog 205 #[.int .i32 (r:Int)] w fun e w'=>e=.returned (.bool true)/\w=w' from by
    rcases hv with h|⟨h,h'⟩
    ·exact Q7V r w h
    ·exact Q5F r w h h')
   rcases QeH r h hv with ⟨x,y,he,hy⟩|⟨x,y,z,he,hy⟩|⟨x,y,z,u,he,hy⟩
   ·exact Qad r sgn ⟨#[x,y]⟩ w rfl rfl he (QhH 1 Q1 y hy) (QoQ y 2 hy) h hr HV
   ·exact Qa9 r sgn ⟨#[x,y,z]⟩ w rfl rfl he (QhH 2 Q1 z hy) rfl h hr HV
   ·exact QaQ r sgn ⟨#[x,y,z,u]⟩ w rfl rfl he h hr HV
  ·exact Q5s r w h Q3 Q3
def okC(c:UInt8):Bool:=(97<=c.toNat&&c.toNat<=122)||(48<=c.toNat&&c.toNat<=57)||Q2H c
theorem Q61(h1:97<=c.toNat)(h2:c.toNat<=122):okC c=true:=by simp [okC,h1,h2]
theorem Q8G(h1:48<=c.toNat)(h2:c.toNat<=57):okC c=true:=by simp [okC,h1,h2]
theorem Q3Q(h1:¬(97<=c.toNat/\c.toNat<=122))(h2:¬(48<=c.toNat/\c.toNat<=57)):okC c=Q2H c:=by
 have e1:(decide (97<=c.toNat)&&decide (c.toNat<=122))=false:=by
  exact Q74
 have e2:(decide (48<=c.toNat)&&decide (c.toNat<=57))=false:=by
  exact Q74
 unfold okC;rw[e1,e2];simp
theorem Qp2(h:128<=c.toNat):okC c=false:=by
 rw[Q3Q Q3 Q3];have key:∀d:UInt8,d.toNat<128->(c==d)=false:=fun d hd=>by
  rw[beq_eq_false_iff_ne];rintro rfl;omega
 simp [Q2H,key 45 Q1,key 95 Q1,key 46 Q1]
theorem Q2c(c:UInt8)(w:World)(h:c.toNat<128):Calls Tryz.prog 166 #[.string sgn,.int .i32 (c.toNat:Int)] w fun e w'=>e=.returned (.bool (Q2H c))/\w=w':=by
 have HS:=Q2 (Qjg c);go_enter Tryz.func166,Tryz.ntmps166;go_wp2_with fail
 refine(Q5m sgn c _ h).mono ?_;rintro e w' ⟨rfl,rfl⟩;go_wp2_with fail
 go_ret;exact⟨by rw[<- HS.out];rfl,rfl⟩
theorem Q2J(r:Nat)(w:World)(h:128<=r):Calls Tryz.prog 166 #[.string sgn,.int .i32 (r:Int)] w fun e w'=>e=.returned (.bool false)/\Below w.heap.size w w':=by
 go_enter Tryz.func166,Tryz.ntmps166;go_wp2_with fail
 refine(Q69 r _ h).mono ?_;rintro e w' ⟨rfl,hb⟩;go_wp2_with fail
 go_ret;exact⟨rfl,hb⟩
theorem Q0G(c:UInt8)(w:World)(h:c.toNat<128):Calls Tryz.prog 165 #[.int .i32 (c.toNat:Int)] w fun e w'=>e=.returned (.bool (!okC c))/\w=w':=by
 by_cases h1:97<=c.toNat/\c.toNat<=122
 ·have HK:=Q2 (Q61 h1.1 h1.2);obtain⟨a1,a2⟩:=h1
  have a1':¬(c.toNat:Int)<97:=by omega
  have a2':¬(122:Int)<(c.toNat:Int):=by omega
  go_enter Tryz.func165,Tryz.ntmps165;go_wp2_with fail
  exact Q6h
 ·by_cases h2:48<=c.toNat/\c.toNat<=57
  ·have HK:=Q2 (Q8G h2.1 h2.2);obtain⟨a1,a2⟩:=h2
   have a3:(c.toNat:Int)<97:=by omega
   have a1':¬(c.toNat:Int)<48:=by omega
   have a2':¬(57:Int)<(c.toNat:Int):=by omega
   clear h1;go_enter Tryz.func165,Tryz.ntmps165;go_wp2_with fail
   exact Q6h
  ·have HK:=Q2 (Q3Q h1 h2);have HC:=Q2 (Q2c c w h)
   by_cases b1:(c.toNat:Int)<97
   ·by_cases b2:(c.toNat:Int)<48
    ·clear h1 h2
     go_enter Tryz.func165,Tryz.ntmps165;go_wp2_with fail
     refine HC.out.mono ?_;rintro e w' ⟨rfl,rfl⟩;go_wp2_with fail
     exact Q6h
    ·have b3:(57:Int)<(c.toNat:Int):=by omega
     clear h1 h2;go_enter Tryz.func165,Tryz.ntmps165;go_wp2_with fail
     refine HC.out.mono ?_;rintro e w' ⟨rfl,rfl⟩;go_wp2_with fail
     exact Q6h
   ·have b2:(122:Int)<(c.toNat:Int):=by omega
    have b3:¬(c.toNat:Int)<48:=by omega
    have b4:(57:Int)<(c.toNat:Int):=by omega
    clear h1 h2;go_enter Tryz.func165,Tryz.ntmps165;go_wp2_with fail
    refine HC.out.mono ?_;rintro e w' ⟨rfl,rfl⟩;go_wp2_with fail
    exact Q6h
theorem Q7D(r:Nat)(w:World)(h:128<=r):Calls Tryz.prog 165 #[.int .i32 (r:Int)] w fun e w'=>e=.returned (.bool true)/\Below w.heap.size w w':=by
 have b1:¬(r:Int)<97:=by omega
 have b2:(122:Int)<(r:Int):=by omega
 have b3:¬(r:Int)<48:=by omega
 have b4:(57:Int)<(r:Int):=by omega
 go_enter Tryz.func165,Tryz.ntmps165;go_wp2_with fail
 refine(Q2J r _ h).mono ?_;rintro e w' ⟨rfl,hb⟩;go_wp2_with fail
 go_ret;exact⟨rfl,hb⟩
end
section
variable {c:UInt8}{k:Nat}{l:List UInt8}{s:ByteArray}
theorem Q19(h:k<s.size):s.data.toList[k]? =some s[k]:=by
 rw[List.getElem?_eq_getElem (by simpa using h)];rfl
def Qk3(l:List UInt8)(w:World)(e:Ending)(w':World):Prop:=∃n:Int,e=.returned (.int .i64 n)/\decide (0<=n)=(!(l.all okC))/\Below w.heap.size w w'
def Qwa(s:ByteArray)(w:World)(i:Value)(wr:World):Prop:=∃pos:Nat,pos<=s.size/\(s.data.toList.take pos).all okC=true/\w.iter s pos=wr
theorem Qqh(h:l[k]? =some c)(hc:okC c=false):l.all okC=false:=by
 rw[List.all_eq_false];exact⟨c,List.mem_of_getElem? h,by simp [hc]⟩
theorem Qku(h:l[k]? =some c)(hc:okC c=true)(hl:(l.take k).all okC=true):(l.take (k+1)).all okC=true:=by
 rw[List.take_add_one,h,Option.toList_some,List.all_append,hl];simp [hc]
theorem QjE{w w':World}(h:s.data.toList[k]? =some c)(hc:okC c=false)(hb:Below w.heap.size w w'):Qk3 s.data.toList w (.returned (.int .i64 (k:Int))) w':=
 ⟨_,rfl,by rw[Qqh h hc];simp,hb⟩
theorem Q5t(s:ByteArray)(w:World)(hs:s.size<=9223372036854775807):Calls Tryz.prog 204 #[.string s,.func (.func 165) #[] #[],.bool true] w (Qk3 s.data.toList w):=by
 go_enter Tryz.func204,Tryz.ntmps204;go_wp2_with fail
 go_loopw [7] (Qwa s w) (fun _ wr=>s.size - wr.iterPos w.heap.size)
 case atStart=>exact⟨0,Nat.zero_le _,rfl,rfl⟩
 case round=>
  obtain⟨pos,hpos,hall,rfl⟩:=hrel;have HALL:=Q2 hall;clear hall;by_cases hp:pos<s.size
  ·have HX:=Q2 (Q19 (s:=s) (k:=pos) hp)
   by_cases ha:s[pos].toNat<128
   ·have hnx:∀ty,(Instr.next (.pointer (some ⟨w.heap.size,0,none⟩)) true ty).run Tryz.prog (w.iter s pos)=_:=fun ty=>run_next_ascii w s pos ty hp ha
    by_cases hc:okC s[pos]=true
    ·go_wp2_with fail
     refine(Q0G s[pos] _ ha).mono ?_;rintro e w' ⟨rfl,rfl⟩;have HC:=Q2 hc;rw[HC.out];clear hc hnx;go_wp2_with fail
     go_roundw
     case rel=>exact⟨pos+1,by omega,Qku HX.out HC.out HALL.out,rfl⟩
     case measure=>simp;omega
    ·have hc':okC s[pos]=false:=by simpa using hc
     have HC:=Q2 hc';clear hc hc';go_wp2_with fail
     refine(Q0G s[pos] _ ha).mono ?_;rintro e w' ⟨rfl,rfl⟩;rw[HC.out];clear hnx;go_wp2_with fail
     go_ret;exact QjE HX.out HC.out ((Below.refl _ _).alloc Xo _)
   ·have hh:=decode_high s pos hp Q3;have HC:=Q2 (Qp2 (c:=s[pos]) Q3)
    have hnx:∀ty,(Instr.next (.pointer (some ⟨w.heap.size,0,none⟩)) true ty).run Tryz.prog (w.iter s pos)=_:=fun ty=>run_next_any w s pos ty hp;generalize (Utf8.decode s pos).1=r at*
    generalize (Utf8.decode s pos).2=d at*
    go_wp2_with fail
    refine(Q7D r _ hh.1).mono ?_;rintro e w' ⟨rfl,hb⟩;clear hnx;go_wp2_with fail
    go_ret;exact QjE HX.out HC.out (((Below.refl _ _).alloc Xo _).trans (hb.mono (by simp [World.iter])))
  ·have hnx:∀ty,(Instr.next (.pointer (some ⟨w.heap.size,0,none⟩)) true ty).run Tryz.prog (w.iter s pos)=_:=fun ty=>run_next_end w s pos ty hp
   have HA:Hid (s.data.toList.all okC=true):=Q2 (by
    have:=HALL.out
    rwa [List.take_of_length_le Q4j] at this)
   go_wp2_with fail
   go_ret;exact⟨-1,rfl,by rw[HA.out];rfl,(Below.refl _ _).alloc Xo _⟩
theorem Q43(s:ByteArray)(w:World)(hs:s.size<=9223372036854775807):Calls Tryz.prog 187 #[.string s,.func (.func 165) #[] #[]] w (Qk3 s.data.toList w):=by
 go_enter Tryz.func187,Tryz.ntmps187;go_wp2_with fail
 refine(Q5t s _ hs).mono ?_;rintro e w' ⟨n,rfl,hn,hb⟩;have HN:=Q2 hn;clear hn;go_wp2_with fail
 go_ret;exact⟨n,rfl,HN.out,hb⟩
theorem Q2e(s:ByteArray)(w:World)(hs:s.size<=9223372036854775807):Calls Tryz.prog 164 #[.string s,.func (.func 165) #[] #[]] w fun e w'=>e=.returned (.bool (!(s.data.toList.all okC)))/\Below w.heap.size w w':=by
 go_enter Tryz.func164,Tryz.ntmps164;go_wp2_with fail
 refine(Q43 s _ hs).mono ?_;rintro e w' ⟨n,rfl,hn,hb⟩;have HN:=Q2 hn;clear hn;go_wp2_with fail
 go_ret;exact⟨by rw[<- HN.out];rfl,hb⟩
def Qw(l:List UInt8):Bool:=decide (l.length<=32)&&(match l with|[]=>false|c::_=>decide (97<=c.toNat/\c.toNat<=122))&&l.all okC
theorem Q0k(h:32<l.length):Qw l=false:=by
 have:decide (l.length<=32)=false:=decide_eq_false Q3;simp [Qw,this]
theorem Q4B(h:l[0]? =some c)(hc:¬(97<=c.toNat/\c.toNat<=122)):Qw l=false:=by
 match l,h with
 |x::r,h=>
  simp at h;subst h;have:decide (97<=x.toNat/\x.toNat<=122)=false:=decide_eq_false hc;unfold Qw;simp only[this,Bool.and_false,Bool.false_and]
theorem Q7u(hl:l.length<=32)(h:l[0]? =some c)(hc:97<=c.toNat/\c.toNat<=122):Qw l=l.all okC:=by
 match l,h with
 |x::r,h=>
  simp at h;subst h;have h1:decide (97<=x.toNat/\x.toNat<=122)=true:=decide_eq_true hc;have h2:decide ((x::r).length<=32)=true:=decide_eq_true hl;unfold Qw;simp only[h1,h2,Bool.true_and]
theorem Q2r(s:ByteArray)(w:World)(hs:s.size<=9223372036854775807):Calls Tryz.prog 133 #[.string s] w fun e w'=>e=.returned (.bool (Qw s.data.toList))/\Below w.heap.size w w':=by
 by_cases h0:s.size=0
 ·have e0:s.toList=[]:=by rw[Lib.toList_data];exact List.eq_nil_of_length_eq_zero (by simpa using h0)
  have HK:=Q2 (show Qw s.data.toList=false by rw[List.eq_nil_of_length_eq_zero (l:=s.data.toList) (by simpa using h0)];rfl);have e1:s.toList.isEmpty=true:=by rw[e0];rfl
  go_enter Tryz.func133,Tryz.ntmps133;go_wp2_with fail
  exact Qgy
 ·have e1:s.toList.isEmpty=false:=by
   rw[Lib.toList_data];cases h:s.data.toList with
   |nil=>exact absurd (by simpa using congrArg List.length h) h0
   |cons=>rfl
  have e2:¬s.toList=[]:=by intro e;rw[e] at e1;cases e1
  by_cases h32:32<s.size
  ·have HK:=Q2 (Q0k (l:=s.data.toList) (by simpa using h32))
   have h32':(32:Int)<(s.size:Int):=by omega
   go_enter Tryz.func133,Tryz.ntmps133;go_wp2_with fail
   exact Qgy
  ·have h32':¬(32:Int)<(s.size:Int):=by omega
   have hpos:0<s.size:=by omega
   have HX:=Q19 (s:=s) (k:=0) hpos;by_cases hc:97<=s[0].toNat/\s[0].toNat<=122
   ·have HK:=Q2 (Q7u (l:=s.data.toList) (by simpa using (show s.size<=32 by omega)) HX hc);obtain⟨c1,c2⟩:=hc
    have c1':¬(s[0].toNat:Int)<97:=by omega
    have c2':¬(122:Int)<(s[0].toNat:Int):=by omega
    clear HX;go_enter Tryz.func133,Tryz.ntmps133;go_wp2_with fail
    refine(Q2e s _ hs).mono ?_;rintro e w' ⟨rfl,hb⟩;go_wp2_with fail
    go_ret;exact⟨by rw[HK.out];simp,hb⟩
   ·have HK:=Q2 (Q4B (l:=s.data.toList) HX hc);clear HX
    by_cases c1:(s[0].toNat:Int)<97
    ·clear hc
     go_enter Tryz.func133,Tryz.ntmps133;go_wp2_with fail
     exact Qgy
    ·have c2:(122:Int)<(s[0].toNat:Int):=by omega
     clear hc;go_enter Tryz.func133,Tryz.ntmps133;go_wp2_with fail
     exact Qgy
end
section
variable {i lev num:Nat}
structure Nd where
 k:Int
 n:Int
 bs:List UInt8
 ns:List (List UInt8)
inductive VF where
 |nil:VF
 |cons:Nd->VF->VF->VF
def VF.len:VF->Nat
 |.nil=>0
 |.cons _ _ r=>r.len+1
def VF.drop:VF->Nat->VF
 |F,0=>F
 |.nil,_+1=>.nil
 |.cons _ _ r,i+1=>r.drop i
def VF.take:VF->Nat->VF
 |_,0=>.nil
 |.nil,_+1=>.nil
 |.cons d p r,i+1=>.cons d p (r.take i)
def VF.snoc:VF->Nd->VF->VF
 |.nil,d,p=>.cons d p .nil
 |.cons d' p' r,d,p=>.cons d' p' (r.snoc d p)
def VF.All(C:Nd->VF->Prop):VF->Prop
 |.nil=>True
 |.cons d p r=>C d p/\VF.All C r
theorem VF.all_of{C:Nd->VF->Prop}(h:∀d p,VF.All C p->C d p):∀F:VF,VF.All C F:=by
 intro F;induction F with
 |nil=>trivial
 |cons d p r ih1 ih2=>exact⟨h d p ih1,ih2⟩
theorem VF.all_each{C:Nd->VF->Prop}(h:∀d p,VF.All C p->C d p)(d:Nd)(p:VF):C d p:=h d p (VF.all_of h p)
theorem VF.drop_zero(F:VF):F.drop 0=F:=by cases F<;>rfl
theorem VF.drop_cons{F:VF}(h:i<F.len):∃d p,F.drop i=.cons d p (F.drop (i+1)):=by
 induction F generalizing i with
 |nil=>simp [VF.len] at h
 |cons d p r _ ih=>
  cases i with
  |zero=>exact⟨d,p,by rw[VF.drop_zero];show _=VF.cons d p (r.drop 0);rw[VF.drop_zero]⟩
  |succ i=>exact ih (by simp [VF.len] at h;omega)
theorem VF.drop_nil{F:VF}(h:F.len<=i):F.drop i=.nil:=by
 induction F generalizing i with
 |nil=>cases i<;>rfl
 |cons d p r _ ih=>
  cases i with
  |zero=>simp [VF.len] at h
  |succ i=>exact ih (by simp [VF.len] at h;omega)
theorem VF.all_drop{C:Nd->VF->Prop}{F:VF}(h:VF.All C F)(i:Nat):VF.All C (F.drop i):=by
 induction F generalizing i with
 |nil=>cases i<;>trivial
 |cons d p r _ ih=>
  cases i with
  |zero=>exact h
  |succ i=>exact ih h.2 i
theorem VF.len_snoc(F:VF)(d:Nd)(p:VF):(F.snoc d p).len=F.len+1:=by
 induction F with
 |nil=>rfl
 |cons _ _ r _ ih=>simp [VF.snoc,VF.len,ih]
theorem VF.take_zero(F:VF):F.take 0=.nil:=by cases F<;>rfl
theorem VF.take_all{F:VF}(h:F.len<=i):F.take i=F:=by
 induction F generalizing i with
 |nil=>cases i<;>rfl
 |cons d p r _ ih=>
  cases i with
  |zero=>simp [VF.len] at h
  |succ i=>show VF.cons d p (r.take i)=_;rw[ih (by simp [VF.len] at h;omega)]
def Qgt(d:Nd)(np:Nat):Bool:=
 decide (d.k≠1/\d.n≠0)||decide (d.k≠2/\0<d.bs.length)||decide (d.k≠4/\0<d.ns.length)||decide (d.k<3/\0<np)||decide (d.k=4/\d.ns.length≠np)
def QP(d:Nd)(np:Nat):Int:=
 if d.k<1\/4<d.k then 5 else if Qgt d np=true then 6 else if 600<np then 14 else if d.ns.all Qw=false then 7 else if ¬d.ns.Nodup then 8 else 0
theorem Qnk(d:Nd)(np:Nat):0<=QP d np/\QP d np<=14:=by
 unfold QP;repeat' split
 all_goals omega
def Xd:VF->Nat->Nat->Sum (Int×Int) Nat
 |.nil,num,_=>.inr num
 |.cons d p r,num,lev=>
  if 600<=num\/10<lev then .inl (2,(num:Int))
  else if QP d p.len≠0 then .inl (QP d p.len,(num:Int))
  else match Xd p (num+1) (lev+1) with
   |.inl f=>.inl f
   |.inr m=>Xd r m lev
theorem Zw{d:Nd}{p r:VF}(h:600<=num\/10<lev):Xd (.cons d p r) num lev=.inl (2,(num:Int)):=by rw[Xd,if_pos h]
theorem XS{d:Nd}{p r:VF}(h:¬(600<=num\/10<lev))(hn:QP d p.len≠0):Xd (.cons d p r) num lev=.inl (QP d p.len,(num:Int)):=by rw[Xd,if_neg h,if_pos hn]
theorem Zl{d:Nd}{p r:VF}{f:Int×Int}(h:¬(600<=num\/10<lev))(hn:¬QP d p.len≠0)(hp:Xd p (num+1) (lev+1)=.inl f):Xd (.cons d p r) num lev=.inl f:=by rw[Xd,if_neg h,if_neg hn,hp]
theorem ZH{d:Nd}{p r:VF}{m:Nat}(h:¬(600<=num\/10<lev))(hn:¬QP d p.len≠0)(hp:Xd p (num+1) (lev+1)=.inr m):Xd (.cons d p r) num lev=Xd r m lev:=by rw[Xd,if_neg h,if_neg hn,hp]
theorem VK(F:VF):∀(num lev:Nat) (c i:Int),Xd F num lev=.inl (c,i)->c≠0:=by
 induction F with
 |nil=>intro num lev c i h;cases h
 |cons d p r ih1 ih2=>
  intro num lev c i h;by_cases h1:600<=num\/10<lev
  ·rw[Zw h1] at h;injection h with h;injection h with h;omega
  ·by_cases h2:QP d p.len≠0
   ·rw[XS h1 h2] at h;injection h with h;injection h with h;omega
   ·cases hp:Xd p (num+1) (lev+1) with
    |inl f=>rw[Zl h1 h2 hp] at h;injection h with h;subst h;exact ih1 _ _ _ _ hp
    |inr m=>rw[ZH h1 h2 hp] at h;exact ih2 _ _ _ _ h
theorem Q10(F:VF):∀(num lev m:Nat),Xd F num lev=.inr m->num<=m/\(num<=600->m<=600):=by
 induction F with
 |nil=>intro num lev m h;injection h with h;omega
 |cons d p r ih1 ih2=>
  intro num lev m h;by_cases h1:600<=num\/10<lev
  ·rw[Zw h1] at h;cases h
  ·by_cases h2:QP d p.len≠0
   ·rw[XS h1 h2] at h;cases h
   ·cases hp:Xd p (num+1) (lev+1) with
    |inl f=>rw[Zl h1 h2 hp] at h;cases h
    |inr k=>
     rw[ZH h1 h2 hp] at h;have a:=ih1 _ _ _ hp;have b:=ih2 _ _ _ h;omega
end
section
variable {u:Nat}
def Qay:Nat->Nat->List UInt8
 |0,u=>[UInt8.ofNat u]
 |k+1,u=>if u<128 then [UInt8.ofNat u] else UInt8.ofNat (u % 128+128)::Qay k (u / 128)
def enc(u:Nat):List UInt8:=Qay u u
theorem Qpb(k:Nat):∀(j u:Nat),u<=k->u<=j->Qay k u=Qay j u:=by
 induction k with
 |zero=>intro j u h _;cases j<;>simp [Qay];omega
 |succ k ih=>
  intro j u hk hj;cases j with
  |zero=>simp [Qay];omega
  |succ j=>
   simp only[Qay];by_cases h:u<128
   ·rw[if_pos h,if_pos h]
   ·rw[if_neg h,if_neg h,ih j (u / 128) Q3 Q3]
theorem Q78(h:u<128):enc u=[UInt8.ofNat u]:=by
 unfold enc;cases u with
 |zero=>rfl
 |succ u=>simp only[Qay];rw[if_pos h]
theorem Qen(h:128<=u):enc u=UInt8.ofNat (u % 128+128)::enc (u / 128):=by
 unfold enc;cases u with
 |zero=>omega
 |succ u=>simp only[Qay];rw[if_neg Q3,Qpb u ((u+1) / 128) _ Q3 Q3]
theorem Qqq(k:Nat):∀u:Nat,u<128 ^ (k+1)->(enc u).length<=k+1:=by
 induction k with
 |zero=>intro u h;rw[Q78 (by simpa using h)];simp
 |succ k ih=>
  intro u h;by_cases hu:u<128
  ·rw[Q78 hu];simp
  ·rw[Qen Q3];have:=ih (u / 128) QlF
   simp only[List.length_cons];omega
theorem QiM(u:Nat)(h:u<18446744073709551616):(enc u).length<=10:=Qqq 9 u (by
 have:(128:Nat) ^ (9+1)=1180591620717411303424:=by decide
 omega)
def Qc1:Nat->Nat->List Nat
 |0,_=>[]
 |k+1,u=>if u=0 then [] else u % 128::Qc1 k (u / 128)
def Q7F(u:Nat):List Nat:=Qc1 u u
theorem Qpd(k:Nat):∀(j u:Nat),u<=k->u<=j->Qc1 k u=Qc1 j u:=by
 induction k with
 |zero=>
  intro j u h _;obtain rfl:u=0:=by omega
  cases j<;>simp [Qc1]
 |succ k ih=>
  intro j u hk hj;cases j with
  |zero=>
   obtain rfl:u=0:=by omega
   simp [Qc1]
  |succ j=>
   simp only[Qc1];by_cases h:u=0
   ·rw[if_pos h,if_pos h]
   ·rw[if_neg h,if_neg h,ih j (u / 128) Q3 Q3]
theorem Q3F:Q7F 0=[]:=rfl
theorem QbY(h:0<u):Q7F u=u % 128::Q7F (u / 128):=by
 unfold Q7F;cases u with
 |zero=>omega
 |succ u=>simp only[Qc1];rw[if_neg Q3,Qpd u ((u+1) / 128) _ Q3 Q3]
def grp(u:Nat):List Nat:=u % 128::Q7F (u / 128)
theorem Qqn(k:Nat):∀u:Nat,u<128 ^ (k+1)->(enc u).length=(grp u).length/\∀i g,(grp u)[i]? =some g->g<128/\(enc u)[i]? =some (UInt8.ofNat (if i+1<(grp u).length then g+128 else g)):=by
 induction k with
 |zero=>
  intro u h;have h:u<128:=by simpa using h
  have e:u / 128=0:=by omega
  have e2:u % 128=u:=by omega
  rw[Q78 h];unfold grp;rw[e,e2,Q3F];refine⟨rfl,fun i g hg=>?_⟩;match i,hg with
  |0,hg=>simp at hg;subst hg;exact⟨h,by simp⟩
 |succ k ih=>
  intro u h;by_cases hu:u<128
  ·have e:u / 128=0:=by omega
   have e2:u % 128=u:=by omega
   rw[Q78 hu];unfold grp;rw[e,e2,Q3F];refine⟨rfl,fun i g hg=>?_⟩;match i,hg with
   |0,hg=>simp at hg;subst hg;exact⟨hu,by simp⟩
  ·have e:grp u=u % 128::grp (u / 128):=by
    unfold grp;rw[QbY (u:=u / 128) Q3]
   obtain⟨h1,h2⟩:=ih (u / 128) QlF;rw[Qen Q3,e];have hp:0<(grp (u / 128)).length:=by simp [grp]
   refine⟨by simp [h1],fun i g hg=>?_⟩;match i,hg with
   |0,hg=>
    simp at hg;subst hg;refine⟨by omega,?_⟩;rw[if_pos (by simp only[List.length_cons];omega)];simp
   |i+1,hg=>
    simp only[List.getElem?_cons_succ] at hg ⊢;obtain⟨a,b⟩:=h2 i g hg;refine⟨a,?_⟩;rw[b];simp only[List.length_cons,Nat.add_lt_add_iff_right]
def zig(n:Int):Nat:=if 0<=n then 2*n.toNat else 2*(-(n+1)).toNat+1
theorem Qa8(n:Int)(h1:-9223372036854775808<=n)(h2:n<=9223372036854775807):zig n<18446744073709551616:=by
 unfold zig;split<;>omega
theorem Qi1(u:Nat)(h:u<18446744073709551616):(enc u).length=(grp u).length/\∀i g,(grp u)[i]? =some g->g<128/\(enc u)[i]? =some (UInt8.ofNat (if i+1<(grp u).length then g+128 else g)):=
 Qqn 9 u (by
  have:(128:Nat) ^ (9+1)=1180591620717411303424:=by decide
  omega)
def num(n:Int):List UInt8:=enc (zig n)
theorem XG(n:Int)(h1:-9223372036854775808<=n)(h2:n<=9223372036854775807):(num n).length<=10:=QiM _ (Qa8 n h1 h2)
def QvH:Nat->List UInt8->Sum Nat (Nat×Nat)
 |_,[]=>.inl 15
 |i,c::l=>
  if (i=9/\1<c.toNat)\/(0<i/\c.toNat=0) then .inl 1
  else if c.toNat<128 then .inr (c.toNat,1)
  else match QvH (i+1) l with
   |.inl e=>.inl e
   |.inr p=>.inr (c.toNat - 128+128*p.1,p.2+1)
def dec(l:List UInt8):Sum Nat (Nat×Nat):=QvH 0 l
theorem Q4F(u:Nat)(h:u<256):(UInt8.ofNat u).toNat=u:=by
 rw[UInt8.toNat_ofNat'];exact QaM
end
theorem Q5J(n:Int):IntKind.u64.wrap n=n % 18446744073709551616:=by simp [IntKind.wrap,IntKind.bits,IntKind.signed]
theorem Ql8(x:Nat)(h:x<18446744073709551616):x ^^^ 18446744073709551615=18446744073709551615 - x:=by
 have e:(BitVec.ofNat 64 x ^^^ BitVec.allOnes 64).toNat=18446744073709551615 - x:=by
  rw[BitVec.xor_allOnes,BitVec.toNat_not,BitVec.toNat_ofNat,Nat.mod_eq_of_lt Q3]
 rw[BitVec.toNat_xor,BitVec.toNat_ofNat,BitVec.toNat_allOnes,Nat.mod_eq_of_lt Q3] at e;exact e
theorem Qmw(n:Int)(h1:-9223372036854775808<=n)(h2:n<=9223372036854775807):
  bits .xor .u64 (IntKind.u64.wrap (IntKind.u64.wrap n*2)) (IntKind.u64.wrap (n / 9223372036854775808))=((zig n:Nat):Int):=by
 have w1:=Q5J n;have w2:=Q5J (IntKind.u64.wrap n*2);have w3:=Q5J (n / 9223372036854775808);by_cases h:0<=n
 ·have e1:IntKind.u64.wrap (IntKind.u64.wrap n*2)=((2*n.toNat:Nat):Int):=by omega
  have e2:IntKind.u64.wrap (n / 9223372036854775808)=((0:Nat):Int):=by omega
  rw[e1,e2,u64_xor_nat _ _ Q3 Q3,Nat.xor_zero];unfold zig;rw[if_pos h]
 ·have e1:IntKind.u64.wrap (IntKind.u64.wrap n*2)=((18446744073709551616 - 2*(-n).toNat:Nat):Int):=by omega
  have e2:IntKind.u64.wrap (n / 9223372036854775808)=((18446744073709551615:Nat):Int):=by omega
  rw[e1,e2,u64_xor_nat _ _ Q3 Q3,Ql8 _ Q3];unfold zig;rw[if_neg h];omega
theorem Qqe(u:Nat):bits .or .u8 ((u:Int) % 256) 128=(((UInt8.ofNat (u % 128+128)).toNat:Nat):Int):=by
 rw[Q4F _ Q3];have e1:(u:Int) % 256=((u % 256:Nat):Int):=by omega
 have e2:(128:Int)=((128:Nat):Int):=rfl;rw[e1,e2,u8_or_nat _ _ Q3 Q3];by_cases h:u % 256<128
 ·rw[Nat.or_comm,nat_join 7 128 (u % 256) Q1 Q3];omega
 ·have e3:u % 256=128|||(u % 128):=by rw[nat_join 7 128 (u % 128) Q1 Q3];omega
  rw[e3,Nat.or_comm,<- Nat.or_assoc,Nat.or_self,nat_join 7 128 (u % 128) Q1 Q3];omega
theorem QaD(u:Nat)(h:u<256):(u:Int)=(((UInt8.ofNat u).toNat:Nat):Int):=by
 rw[Q4F _ Q3]
def Qup(w:World)(m:List UInt8)(u v:Value)(wr:World):Prop:=
 ∃(x:Nat) (acc:List UInt8) (A:Option Addr) (c:Nat),u=.int .u64 (x:Int)/\v=.slice A acc.length c/\wr.ownsRow w.heap.size 5 1 (.slice A acc.length c) acc.length (bv acc)/\Below w.heap.size w wr/\acc++enc x=m
theorem QoR{n:Int}{acc:List UInt8}{x:Nat}(h:acc++enc x=num n)(hx:¬x<128):(acc++[UInt8.ofNat (x % 128+128)])++enc (x / 128)=num n:=by
 rw[<- h,Qen (by omega:128<=x)];simp
theorem XX(n:Int)(w:World)(h1:-9223372036854775808<=n)(h2:n<=9223372036854775807):
  Calls Tryz.prog 143 #[.int .i64 n] w (JP w (num n)):=by
 have hl:=XG n h1 h2;go_enter Tryz.func143,Tryz.ntmps143;go_wp2_with fail
 rw[Qmw n h1 h2];go_loopw [3,4] (fun u v wr=>Qup w (num n) u v wr) (fun u _ _=>(intOf u).toNat)
 case atStart=>exact⟨zig n,[],none,0,rfl,rfl,World.ownsRow_nil _ _ _ _,Below.refl _ _,rfl⟩
 case round=>
  obtain⟨x,acc,A,c,rfl,rfl,hown,hb,he⟩:=hrel;have HE:=Q2 he;have hal:acc.length+(enc x).length<=10:=by
   have:=congrArg List.length he;rw[List.length_append] at this;omega
  have hsz:=hb.size;clear he h1 h2;by_cases hx:x<128
  ·have hxx:(x:Int)<128:=by omega
   go_wp2_with (first|(at_builtin;refine Jo _ slB rfl (.tmp 22) (.tmp 25) rfl w.heap.size A acc.length c (bv acc) rfl hown _ rfl rfl Q3 hsz hb (Nat.le_refl _) ?_;intro A1 c1 w1 hown1 _ hb1))
   go_ret;have e:acc++[UInt8.ofNat x]=num n:=by rw[<- HE.out,Q78 hx]
   rw[<- e];exact Qj0 hown1 (QaD x Q3) hb1
  ·go_wp2_with (first|(at_builtin;refine Jo _ slB rfl (.tmp 16) (.tmp 20) rfl w.heap.size A acc.length c (bv acc) rfl hown _ rfl rfl Q3 hsz hb (Nat.le_refl _) ?_;intro A1 c1 w1 hown1 _ hb1))
   go_roundw
   case rel=>exact⟨x / 128,_,A1,c1,by go_num,by rw[<- QmX],QcE hown1 (Qqe x),hb1,QoR HE.out hx⟩
   case measure=>simp [intOf];omega
section
variable {A:Option Addr}{acc:List Nat}{base c i x:Nat}{m:List UInt8}{w:World}
theorem slI:SlT Tryz.prog 48 3 1 8:=SlT.mk' Tryz.underlying48 (z:=.int .i64 0) Q5 rfl Q1 Q1
def iv(l:List Int):List Value:=l.map (Value.int .i64)
theorem Q07(l:List Int):(iv l).length=l.length:=by simp [iv]
theorem QmW(a b:List Int):iv (a++b)=iv a++iv b:=by simp [iv]
theorem Qfx(l:List Int):∀u∈iv l,u.oneCell'=true:=by
 intro u hu;simp only[iv,List.mem_map] at hu;obtain⟨b,_,rfl⟩:=hu;rfl
def nv(l:List Nat):List Value:=l.map fun(g:Nat)=>Value.int .i64 (g:Int)
theorem QpO(l:List Nat)(g:Nat):nv (l++[g])=nv l++[.int .i64 (g:Int)]:=by simp [nv]
def QuZ(w:World)(m:Nat)(u v:Value)(wr:World):Prop:=
 ∃(x:Nat) (acc:List Nat) (A:Option Addr) (c:Nat),u=.int .u64 (x:Int)/\v=.slice A acc.length c/\wr.ownsRow w.heap.size 3 1 (.slice A acc.length c) acc.length (nv acc)/\Below w.heap.size w wr/\(x:Int)<18446744073709551616/\
  ((acc=[]/\x=m)\/(acc≠[]/\acc++Q7F x=grp m))
def QpX(w w1:World)(m:Nat)(v k:Value)(wr:World):Prop:=
 ∃(i:Nat) (A:Option Addr) (c:Nat),k=.int .i64 (i:Int)/\i<=(enc m).length/\v=.slice A i c/\wr.ownsRow w1.heap.size 5 1 (.slice A i c) i (bv ((enc m).take i))/\Below w1.heap.size w1 wr/\Below w.heap.size w wr
theorem QgD(n u:Int)(h:u=((zig n:Nat):Int))(w:World):Value.int .u64 u=.int .u64 ((zig n:Nat):Int)/\w=w:=⟨by rw[h],rfl⟩
def QeA(u v:Value):Nat:=match v with|.slice _ 0 _=>(intOf u).toNat+1|_=>(intOf u).toNat
theorem Q8q(x:Nat)(acc:List Nat)(A A':Option Addr)(c c':Nat)(h:acc=[]\/0<x):QeA (.int .u64 ((x:Int) / 128)) (.slice A' (acc.length+1) c')<QeA (.int .u64 (x:Int)) (.slice A acc.length c):=by
 have e1:QeA (.int .u64 ((x:Int) / 128)) (.slice A' (acc.length+1) c')=x / 128:=by simp [QeA,intOf];omega
 rw[e1];rcases acc with _|⟨g,acc⟩
 ·simp [QeA,intOf];omega
 ·simp [QeA,intOf]
  rcases h with h|h
  ·cases h
  ·omega
theorem QcW{m:Nat}(h:(acc=[]/\x=m)\/(acc≠[]/\acc++Q7F x=grp m))(hx:acc=[]\/0<x):acc++[x % 128]≠[]/\(acc++[x % 128])++Q7F (x / 128)=grp m:=by
 refine⟨by simp,?_⟩;rcases h with ⟨rfl,rfl⟩|⟨h1,h2⟩
 ·simp [grp]
 ·rcases hx with hx|hx
  ·exact absurd hx h1
  ·rw[<- h2,QbY hx];simp
theorem Qqr{n:Int}(h1:-9223372036854775808<=n)(h2:n<=9223372036854775807)(h:(acc=[]/\x=zig n)\/(acc≠[]/\acc++Q7F x=grp (zig n))):acc.length<=10:=by
 have hg:=(Qi1 (zig n) (Qa8 n h1 h2)).1;have hl:=XG n h1 h2;unfold num at hl;rcases h with ⟨rfl,_⟩|⟨_,h⟩
 ·simp
 ·rw[hg,<- h,List.length_append] at hl;omega
theorem Qn6{m:Nat}(h:(acc=[]/\x=m)\/(acc≠[]/\acc++Q7F x=grp m))(ha:acc≠[])(hx:¬0<x):acc=grp m:=by
 rcases h with ⟨h,_⟩|⟨_,h⟩
 ·exact absurd h ha
 ·obtain rfl:x=0:=by omega
  rw[Q3F,List.append_nil] at h;exact h
theorem QdZ{b:UInt8}{v:Int}(h:w.ownsRow base 5 1 (.slice A (i+1) c) (i+1) (bv (m.take i)++[.int .u8 v]))
  (hb:m[i]? =some b) (hv:v=(b.toNat:Int)):w.ownsRow base 5 1 (.slice A (i+1) c) (i+1) (bv (m.take (i+1))):=by
 subst hv;have hi:i<m.length:=(List.getElem?_eq_some_iff.1 hb).1;have e:m.take (i+1)=m.take i++[b]:=by
  rw[List.take_succ_eq_append_getElem hi];rw[List.getElem?_eq_getElem hi] at hb;injection hb with hb;rw[hb]
 rw[e,Q09];exact h
theorem QpV{w0:World}(h:w.ownsRow base 5 1 (.slice A i c) i (bv (m.take i)))(hi:i=m.length)(hB:w0.heap.size<=base)(hb:Below w0.heap.size w0 w):
  JP w0 m (.returned (.slice A i c)) w:=by
 subst hi;rw[List.take_length] at h;exact⟨A,c,rfl,JL h hB,hb⟩
theorem Qkh(h:w.ownsRow base 3 1 (.slice A (acc.length+1) c) (acc.length+1) (nv acc++[.int .i64 ((x:Int) % 128)])):
  w.ownsRow base 3 1 (.slice A (acc++[x % 128]).length c) (acc++[x % 128]).length (nv (acc++[x % 128])):=by
 rw[QpO,List.length_append];exact h
theorem Q45(n:Int)(w:World)(h1:-9223372036854775808<=n)(h2:n<=9223372036854775807):
  Calls Tryz.prog 86 #[.int .i64 n] w (JP w (num n)):=by
 have hl:=XG n h1 h2;go_enter Tryz.func86,Tryz.ntmps86;go_upto_if 8 with (fail)
 go_cut [3] (fun u wx=>u=.int .u64 ((zig n:Nat):Int)/\wx=w)
 case first=>
  by_cases hn:0<=n
  ·go_wp2_with fail
   go_meet
   exact QgD n _ (by unfold zig;rw[if_pos hn];omega) _
  ·go_wp2_with fail
   go_meet
   exact QgD n _ (by unfold zig;rw[if_neg Q3];omega) _
 case rest=>
  obtain⟨rfl,rfl⟩:=hcut;have H1:=Q2 h1;have H2:=Q2 h2;clear h1 h2;go_wp2_with fail
  go_loopw [3,4] (fun u v wr=>QuZ wc (zig n) u v wr) (fun u v _=>QeA u v)
  case atStart=>exact⟨zig n,[],none,0,rfl,rfl,World.ownsRow_nil _ _ _ _,Below.refl _ _,by have:=Qa8 n H1.out H2.out;omega,.inl ⟨rfl,rfl⟩⟩
  case round=>
   obtain⟨x,acc,A,c,rfl,rfl,hown,hb,hx64,he⟩:=hrel;have hsz:=hb.size;have hal:=Qqr H1.out H2.out he;have HE:=Q2 he;clear he;by_cases ha0:acc=[]
   ·have HR:=Q2 (QcW HE.out (.inl ha0))
    have HA:=Q2 ha0;have ha:((acc.length:Int)==0)=true:=by rw[ha0];rfl
    clear ha0;go_wp2_with (first|(at_builtin;refine Jo _ slI rfl (.tmp 25) (.tmp 29) rfl wc.heap.size A acc.length c (nv acc) rfl hown _ rfl rfl Q3 hsz hb (Nat.le_refl _) ?_;intro A1 c1 w1 hown1 _ hb1))
    go_roundw
    case rel=>exact⟨x / 128,_,A1,c1,by go_num,by simp,Qkh hown1,hb1,by omega,.inr HR.out⟩
    case measure=>exact Q8q x acc _ _ _ _ (.inl HA.out)
   ·have ha:((acc.length:Int)==0)=false:=by
     have:=List.length_pos_iff.2 ha0;simp;exact ha0
    have HA:=Q2 ha0;clear ha0;by_cases hx:0<x
    ·have HR:=Q2 (QcW HE.out (.inr hx))
     have hxi:(0:Int)<(x:Int):=by omega
     go_wp2_with (first|(at_builtin;refine Jo _ slI rfl (.tmp 25) (.tmp 29) rfl wc.heap.size A acc.length c (nv acc) rfl hown _ rfl rfl Q3 hsz hb (Nat.le_refl _) ?_;intro A1 c1 w1 hown1 _ hb1))
     go_roundw
     case rel=>exact⟨x / 128,_,A1,c1,by go_num,by simp,Qkh hown1,hb1,by omega,.inr HR.out⟩
     case measure=>exact Q8q x acc _ _ _ _ (.inr hx)
    ·have hxi:¬(0:Int)<(x:Int):=by omega
     have hg:acc=grp (zig n):=Qn6 HE.out HA.out hx;obtain⟨hlen,hgr⟩:=Qi1 (zig n) (Qa8 n H1.out H2.out);rw[<- hg] at hlen hgr;have HL:=Q2 hlen;have HG:=Q2 hgr;have hpos:0<acc.length:=List.length_pos_iff.2 HA.out;have hll:(enc (zig n)).length=acc.length:=hlen;clear hg hlen hgr;obtain⟨b,o,rfl,hbB,hcells⟩:=(Rd.of_own hown).2 hpos;have HC:=Q2 hcells;clear hcells hown;go_wp2_with fail
     obtain⟨w1,rfl⟩:∃w1:World,w1=wr:=⟨_,rfl⟩;have HLL:=Q2 hll;clear hll hal;have hal2:acc.length<=10:=by rw[<- HLL.out];exact hl
     go_loopw [5,6] (fun v k wr=>QpX wc w1 (zig n) v k wr) (fun _ k _=>acc.length - (intOf k).toNat)
     case atStart=>exact⟨0,none,0,rfl,Nat.zero_le _,rfl,World.ownsRow_nil _ _ _ _,Below.refl _ _,hb⟩
     case round=>
      obtain⟨i,A2,c2,rfl,hi,rfl,hown2,hb2,hb3⟩:=hrel;rw[HLL.out] at hi;have hsz2:=hb2.size;by_cases hlt:i<acc.length
      ·have hgi:acc[i]? =some acc[i]:=List.getElem?_eq_getElem hlt
       obtain⟨hg128,henc⟩:=HG.out i _ hgi;have hcell:wr.cell? ⟨b,o+i,none⟩=some (.int .i64 (acc[i]:Int)):=(hb2.cell (by exact hbB)).trans (HC.out i _ (by simp [nv,hgi]));have HN:=Q2 henc;generalize acc[i]=g at*
       clear henc hgi;by_cases hlast:i+1<acc.length
       ·have hli:(i:Int)+1<(acc.length:Int):=by omega
        go_wp2_with (first|(at_builtin;refine Jo _ slB rfl (.tmp 44) (.tmp 51) rfl w1.heap.size A2 i c2 _ rfl hown2 _ rfl rfl Q3 hsz2 hb3 Q3 ?_;intro A3 c3 w3 hown3 hb4 hb5))
        go_roundw
        case rel=>exact⟨i+1,A3,c3,by go_num,by rw[HLL.out];omega,rfl,QdZ hown3 (by rw[HN.out,if_pos hlast]) (QaD (g+128) Q3),hb2.trans hb4,hb5⟩
        case measure=>simp [intOf];omega
       ·have hli:¬(i:Int)+1<(acc.length:Int):=by omega
        go_wp2_with (first|(at_builtin;refine Jo _ slB rfl (.tmp 53) (.tmp 59) rfl w1.heap.size A2 i c2 _ rfl hown2 _ rfl rfl Q3 hsz2 hb3 Q3 ?_;intro A3 c3 w3 hown3 hb4 hb5))
        go_roundw
        case rel=>exact⟨i+1,A3,c3,by go_num,by rw[HLL.out];omega,rfl,QdZ hown3 (by rw[HN.out,if_neg hlast]) (QaD g Q3),hb2.trans hb4,hb5⟩
        case measure=>simp [intOf];omega
      ·go_wp2_with fail
       go_ret;exact QpV hown2 (by have:=HLL.out;unfold num;omega) hsz hb3
end
section
variable {A:Option Addr}{B c n:Nat}{bs:List UInt8}{w w':World}{xs:List Value}
theorem JP.intro(h:w'.ownsRow w.heap.size 5 1 (.slice A n c) n xs)(hx:xs=bv bs)(hb:Below w.heap.size w w'):JP w bs (.returned (.slice A n c)) w':=by
 subst hx;have hn:n=bs.length:=by have:=h.1;rw[Xr] at this;omega
 subst hn;exact⟨A,c,rfl,h,hb⟩
theorem JP.as{m:Nat}(h:w'.ownsRow w.heap.size 5 1 (.slice A m c) m xs)(hn:n=m)(hx:xs=bv bs)(hb:Below w.heap.size w w'):JP w bs (.returned (.slice A n c)) w':=by
 subst hn;exact JP.intro h hx hb
theorem Q2j(h:Rd w B 1 A n (bv bs))(hn:n<=140737488355328):
  Calls Tryz.prog 50 #[.slice A n c] w (JP w bs):=by
 go_enter Tryz.func50,Tryz.ntmps50;go_wp2_with (at_builtin;refine Q20 _ slB rfl (.tmp 4) (.tmp 5) rfl w.heap.size none 0 0 [] rfl (World.ownsRow_nil _ _ _ _) B A n c (bv bs) rfl h (VM _) Q3 (Nat.le_refl _) ?_;intro A1 c1 w1 hown1 hb1)
 simp only[Nat.zero_add,List.nil_append] at hown1;go_ret;exact JP.intro hown1 rfl hb1
theorem Qfm{B':Nat}{A':Option Addr}{n' c':Nat}{a b:List UInt8}(ha:Rd w B 1 A n (bv a))(hb:Rd w B' 1 A' n' (bv b))(hB:B'<=w.heap.size)(hn:n+n'<=140737488355328):
  Calls Tryz.prog 19 #[.slice A n c,.slice A' n' c'] w (JP w (a++b)):=by
 have hl:a.length=n:=by have:=ha.len;rw[Xr] at this;exact this
 go_enter Tryz.func19,Tryz.ntmps19;go_wp2_with fail
 refine(Q2j ha Q3).mono ?_;rintro e w1 ⟨A1,c1,rfl,hown1,hb1⟩;have HB:=Q2 hb;have HL:=Q2 hl;have hsz:=hb1.size;have hn':a.length+n'<=140737488355328:=by omega
 clear hb hl;go_wp2_with (at_builtin;refine XW _ slB rfl (.tmp 6) (.tmp 7) rfl w.heap.size A1 a.length c1 (bv a) rfl hown1 B' A' n' c' (bv b) rfl (HB.out.below (hb1.mono hB)) (VM _) Q3 hsz hb1 (Nat.le_refl _) ?_;intro A2 c2 w2 hown2 _ hb2)
 go_ret;exact JP.intro hown2 (by rw[Q09]) hb2
def ZE(bs:List UInt8):List UInt8:=num (bs.length:Int)++bs
theorem YU(bs:List UInt8)(h:bs.length<=140737488355318):(ZE bs).length<=bs.length+10:=by
 unfold ZE;rw[List.length_append];have:=XG (bs.length:Int) Q3 Q3;omega
theorem Q4G(h:Rd w w.heap.size 1 A n (bv bs))(hn:n<=140737488355318):
  Calls Tryz.prog 144 #[.slice A n c] w (JP w (ZE bs)):=by
 have hl:bs.length=n:=by have:=h.len;rw[Xr] at this;exact this
 unfold ZE;rw[hl];have hnl:=XG (n:Int) Q3 Q3;go_enter Tryz.func144,Tryz.ntmps144;go_wp2_with fail
 refine(XX (n:Int) _ Q3 Q3).mono ?_;rintro e w1 ⟨A1,c1,rfl,hown1,hb1⟩;have HB:=Q2 h;have HL:=Q2 hl;have hsz:=hb1.size;clear h hl;generalize num (n:Int)=m at*
 go_wp2_with (at_builtin;refine XW _ slB rfl (.tmp 5) (.tmp 6) rfl w.heap.size A1 m.length c1 (bv m) rfl hown1 w.heap.size A n c (bv bs) rfl (HB.out.below hb1) (VM _) Q3 hsz hb1 (Nat.le_refl _) ?_;intro A2 c2 w2 hown2 _ hb2)
 go_ret;exact JP.intro hown2 (by rw[Q09]) hb2
theorem Q6g(h:Rd w w.heap.size 1 A n (bv bs))(hn:n<=140737488355318):
  Calls Tryz.prog 87 #[.slice A n c] w (JP w (ZE bs)):=by
 have hl:bs.length=n:=by have:=h.len;rw[Xr] at this;exact this
 unfold ZE;rw[hl];have hnl:=XG (n:Int) Q3 Q3;go_enter Tryz.func87,Tryz.ntmps87;go_wp2_with fail
 refine(Q45 (n:Int) _ Q3 Q3).mono ?_;rintro e w1 ⟨A1,c1,rfl,hown1,hb1⟩;have HB:=Q2 h;have HL:=Q2 hl;have hsz:=hb1.size;clear h hl;generalize num (n:Int)=m at*
 go_wp2_with fail
 refine(Qfm (Rd.of_own hown1) (HB.out.below hb1) hsz Q3).mono ?_;rintro e w2 ⟨A2,c2,rfl,hown2,hb2⟩;go_wp2
 go_ret;exact JP.as (JL hown2 hsz) Qm rfl (hb1.trans (hb2.mono hsz))
end
theorem slS:SlT Tryz.prog 27 9 1 16:=SlT.mk' Tryz.underlying27 (z:=.string ⟨#[]⟩) Q5 rfl Q1 Q1
def sv(l:List (List UInt8)):List Value:=l.map fun p=>.string ⟨p.toArray⟩
theorem JE(l:List (List UInt8)):(sv l).length=l.length:=by simp [sv]
theorem Qub(a b:List (List UInt8)):sv (a++b)=sv a++sv b:=by simp [sv]
theorem K0{w:World}{B n k:Nat}{A:Option Addr}{xs:List (List UInt8)}(h:Rd w B 1 A n (sv xs))(hk:k<n):∃(b o:Nat) (s:ByteArray),A=some ⟨b,o,none⟩/\b<B/\xs[k]? =some s.data.toList/\w.cell? ⟨b,o+k,none⟩=some (.string s):=by
 obtain⟨b,o,u,rfl,hb,hu,hc⟩:=h.at_ hk;unfold sv at hu;rw[List.getElem?_map] at hu;cases e:xs[k]? with
 |none=>rw[e] at hu;cases hu
 |some p=>rw[e] at hu;simp at hu;exact⟨b,o,⟨p.toArray⟩,rfl,hb,rfl,by rw[hc,<- hu]⟩
section
variable {A:Option Addr}{B c i n:Nat}{s:List UInt8}{w:World}{x:Int}{xs:List (List UInt8)}{α:Type}
theorem Q4p{k:Nat}{xs:List Int}(h:Rd w B 1 A n (iv xs))(hk:k<n):∃b o x,A=some ⟨b,o,none⟩/\b<B/\xs[k]? =some x/\w.cell? ⟨b,o+k,none⟩=some (.int .i64 x):=by
 obtain⟨b,o,u,rfl,hb,hu,hc⟩:=h.at_ hk;unfold iv at hu;rw[List.getElem?_map] at hu;cases e:xs[k]? with
 |none=>rw[e] at hu;cases hu
 |some p=>rw[e] at hu;simp at hu;exact⟨b,o,p,rfl,hb,rfl,by rw[hc,<- hu]⟩
def Qs1(t:Bool)(w:World)(e:Ending)(w':World):Prop:=∃n:Int,e=.returned (.int .i64 n)/\decide (0<=n)=t/\w=w'
def XF{α:Type}[BEq α](xs:List α)(x:α):Bool:=xs.contains x
def QqO{α:Type}[BEq α](xs:List α)(x:α)(k:Value):Prop:=∃i:Nat,i<=xs.length/\k=.int .i64 (i:Int)/\XF (xs.take i) x=false
theorem QfS[BEq α][LawfulBEq α]{xs:List α}{x:α}(h:xs[i]? =some x):XF xs x=true:=by
 unfold XF;rw[List.contains_iff_mem];exact List.mem_of_getElem? h
theorem Q9x[BEq α][LawfulBEq α]{xs:List α}{x y:α}(h:xs[i]? =some y)(hne:¬x=y)(hl:XF (xs.take i) x=false):XF (xs.take (i+1)) x=false:=by
 rw[List.take_add_one,h,Option.toList_some];unfold XF at*
 have h1:¬x∈xs.take i:=fun hm=>by rw[List.contains_iff_mem.2 hm] at hl;cases hl
 cases e:(xs.take i++[y]).contains x with
 |false=>rfl
 |true=>
  rw[List.contains_iff_mem,List.mem_append,List.mem_singleton] at e;rcases e with e|e
  ·exact absurd e h1
  ·exact absurd e hne
theorem Quv[BEq α]{xs:List α}{x:α}(h:xs.length<=i)(hl:XF (xs.take i) x=false):XF xs x=false:=by
 rwa [List.take_of_length_le h] at hl
theorem Q5g{xs:List Int}(h:Rd w B 1 A n (iv xs))(hn:n<=9223372036854775807):Calls Tryz.prog 100 #[.slice A n c,.int .i64 x] w (Qs1 (XF xs x) w):=by
 have HL:=Qnx;have HR:=Q2 h;clear h;go_enter Tryz.func100,Tryz.ntmps100;go_wp2_with fail
 go_loop [8] (QqO xs x) (fun k=>n - (intOf k).toNat)
 case atStart=>exact⟨0,Nat.zero_le _,rfl,rfl⟩
 case round=>
  obtain⟨i,hi,rfl,hf⟩:=hrel;rw[HL.out] at hi;have HF:=Q2 hf;clear hf;by_cases hlt:i<n
  ·obtain⟨b,o,y,rfl,hb,hy,hc⟩:=Q4p HR.out hlt;have HY:=Q2 hy
   have hli:(i:Int)<(n:Int):=by omega
   have h0:(0:Int)<=(i:Int):=by omega
   clear hy;by_cases hxy:x=y
   ·subst hxy
    go_wp2_with fail
    go_ret;exact⟨i,rfl,by rw[QfS HY.out];simp,rfl⟩
   ·have hxy':(x==y)=false:=by simpa using hxy
    have HNE:=Q2 hxy;clear hxy;go_wp2_with fail
    go_round
    case rel=>exact⟨i+1,by rw[HL.out];omega,by go_num,Q9x HY.out HNE.out HF.out⟩
    case measure=>simp [intOf];omega
  ·go_wp2_with fail
   go_ret;exact Qk2
theorem Jf{xs:List Int}(h:Rd w B 1 A n (iv xs))(hn:n<=9223372036854775807):Calls Tryz.prog 68 #[.slice A n c,.int .i64 x] w fun e w'=>e=.returned (.bool (XF xs x))/\w=w':=by
 go_enter Tryz.func68,Tryz.ntmps68;go_wp2_with fail
 refine(Q5g h hn).mono ?_;rintro e w' ⟨m,rfl,hm,rfl⟩;have HM:=Q2 hm;clear hm;go_wp2_with fail
 go_ret;exact⟨by rw[<- HM.out];rfl,rfl⟩
theorem Q5q{s:ByteArray}(h:Rd w B 1 A n (sv xs))(hn:n<=9223372036854775807):Calls Tryz.prog 132 #[.slice A n c,.string s] w (Qs1 (XF xs s.data.toList) w):=by
 have HL:=Ql0;have HR:=Q2 h;clear h;go_enter Tryz.func132,Tryz.ntmps132;go_wp2_with fail
 go_loop [8] (QqO xs s.data.toList) (fun k=>n - (intOf k).toNat)
 case atStart=>exact⟨0,Nat.zero_le _,rfl,rfl⟩
 case round=>
  obtain⟨i,hi,rfl,hf⟩:=hrel;rw[HL.out] at hi;have HF:=Q2 hf;clear hf;by_cases hlt:i<n
  ·obtain⟨b,o,y,rfl,hb,hy,hc⟩:=K0 HR.out hlt;have HY:=Q2 hy
   have hli:(i:Int)<(n:Int):=by omega
   have h0:(0:Int)<=(i:Int):=by omega
   clear hy;by_cases hxy:s=y
   ·subst hxy
    go_wp2_with fail
    go_ret;exact⟨i,rfl,by rw[QfS HY.out];simp,rfl⟩
   ·have hne:¬s.toList=y.toList:=fun e=>hxy (by
     rw[Lib.toList_data,Lib.toList_data] at e
     obtain⟨⟨l⟩⟩:=s;obtain⟨⟨m⟩⟩:=y;simp at e;rw[e])
    have hxy':(s.toList==y.toList)=false:=by simpa using hne
    have HNE:=Q2 (show ¬s.data.toList=y.data.toList by rw[<- Lib.toList_data,<- Lib.toList_data];exact hne);clear hxy hne;go_wp2_with fail
    go_round
    case rel=>exact⟨i+1,by rw[HL.out];omega,by go_num,Q9x HY.out HNE.out HF.out⟩
    case measure=>simp [intOf];omega
  ·go_wp2_with fail
   go_ret;exact Qk2
theorem VW{s:ByteArray}(h:Rd w B 1 A n (sv xs))(hn:n<=9223372036854775807):Calls Tryz.prog 150 #[.slice A n c,.string s] w fun e w'=>e=.returned (.bool (XF xs s.data.toList))/\w=w':=by
 go_enter Tryz.func150,Tryz.ntmps150;go_wp2_with fail
 refine(Q5q h hn).mono ?_;rintro e w' ⟨m,rfl,hm,rfl⟩;have HM:=Q2 hm;clear hm;go_wp2_with fail
 go_ret;exact⟨by rw[<- HM.out];rfl,rfl⟩
theorem Q7P(s:ByteArray)(w:World)(hs:s.size<=9223372036854775807):Calls Tryz.prog 173 #[.string s] w fun e w'=>e=.returned (.bool (!(Qw s.data.toList)))/\Below w.heap.size w w':=by
 go_enter Tryz.func173,Tryz.ntmps173;go_wp2_with fail
 refine(Q2r s _ hs).mono ?_;rintro e w' ⟨rfl,hb⟩;go_wp2_with fail
 go_ret;exact⟨rfl,hb⟩
def QvE(t:Bool)(w:World)(e:Ending)(w':World):Prop:=∃n:Int,e=.returned (.int .i64 n)/\decide (0<=n)=t/\Below w.heap.size w w'
def Qvp(xs:List (List UInt8))(w:World)(k:Value)(wr:World):Prop:=∃i:Nat,i<=xs.length/\k=.int .i64 (i:Int)/\(xs.take i).all Qw=true/\Below w.heap.size w wr
theorem QiA(h:xs[i]? =some s)(hs:Qw s=false):xs.all Qw=false:=by
 rw[List.all_eq_false];exact⟨s,List.mem_of_getElem? h,by simp [hs]⟩
theorem QeF(h:xs[i]? =some s)(hs:Qw s=true)(hl:(xs.take i).all Qw=true):(xs.take (i+1)).all Qw=true:=by
 rw[List.take_add_one,h,Option.toList_some,List.all_append,hl];simp [hs]
def Small(xs:List (List UInt8)):Prop:=∀x∈xs,x.length<=9223372036854775807
theorem Q3V(h:Rd w w.heap.size 1 A n (sv xs))(hn:n<=9223372036854775807)(hx:Small xs):Calls Tryz.prog 146 #[.slice A n c,.func (.func 173) #[] #[]] w (QvE (!(xs.all Qw)) w):=by
 have HL:=Ql0;have HR:=Q2 h;have HX:=Q2 hx;clear h hx;go_enter Tryz.func146,Tryz.ntmps146;go_wp2_with fail
 go_loopw [8] (Qvp xs w) (fun k _=>n - (intOf k).toNat)
 case atStart=>exact⟨0,Nat.zero_le _,rfl,rfl,Below.refl _ _⟩
 case round=>
  obtain⟨i,hi,rfl,hf,hbw⟩:=hrel;rw[HL.out] at hi;have HF:=Q2 hf;have HB:=Q2 hbw;clear hf hbw;by_cases hlt:i<n
  ·obtain⟨b,o,s,rfl,hb,hy,hc⟩:=K0 HR.out hlt
   have HY:=Q2 hy;have hc':wr.cell? ⟨b,o+i,none⟩=some (.string s):=(HB.out.cell Jt).trans hc;have hsz:s.size<=9223372036854775807:=by simpa using HX.out _ (List.mem_of_getElem? hy)
   have hli:(i:Int)<(n:Int):=by omega
   have h0:(0:Int)<=(i:Int):=by omega
   clear hy hc;go_wp2_with fail
   refine(Q7P s _ hsz).mono ?_;rintro e w2 ⟨rfl,hb2⟩;have HB2:=Q2 (HB.out.trans (hb2.mono HB.out.size));clear hb2;by_cases hnm:Qw s.data.toList=true
   ·have HNM:=Q2 hnm
    rw[HNM.out];clear hnm;go_wp2_with fail
    go_roundw
    case rel=>exact⟨i+1,by rw[HL.out];omega,by go_num,QeF HY.out HNM.out HF.out,HB2.out⟩
    case measure=>simp [intOf];omega
   ·have HNM:=Q2 (show Qw s.data.toList=false by simpa using hnm)
    rw[HNM.out];clear hnm;go_wp2_with fail
    go_ret;exact⟨i,rfl,by rw[QiA HY.out HNM.out];simp,HB2.out⟩
  ·go_wp2_with fail
   go_ret;refine⟨-1,rfl,?_,HB.out⟩;have:=HF.out;rw[List.take_of_length_le (by rw[HL.out];omega)] at this;rw[this];rfl
theorem QZ(h:Rd w w.heap.size 1 A n (sv xs))(hn:n<=9223372036854775807)(hx:Small xs):Calls Tryz.prog 172 #[.slice A n c,.func (.func 173) #[] #[]] w fun e w'=>e=.returned (.bool (!(xs.all Qw)))/\Below w.heap.size w w':=by
 go_enter Tryz.func172,Tryz.ntmps172;go_wp2_with fail
 refine(Q3V h hn hx).mono ?_;rintro e w' ⟨m,rfl,hm,hb⟩;have HM:=Q2 hm;clear hm;go_wp2_with fail
 go_ret;exact⟨by rw[<- HM.out];rfl,hb⟩
theorem Qjw{g:Nat}{xs:List Int}{k:Int}(h:Rd w B 1 A n (iv xs))(hn:n<=9223372036854775807)(hk:w.cell? ⟨g,0,none⟩=some (.int .i64 k)):Calls Tryz.prog 171 #[.slice A n c,.pointer (some ⟨g,0,none⟩)] w fun e w'=>e=.returned (.bool (XF xs k))/\w=w':=by
 go_enter Tryz.func171,Tryz.ntmps171;go_wp2_with fail
 refine(Jf h hn).mono ?_;rintro e w' ⟨rfl,rfl⟩;go_wp2_with fail
 exact JI
end
section
variable {i np:Nat}{ns:List (List UInt8)}{s:List UInt8}{w:World}
theorem Rd.lit(w:World)(cs:Array Value)(e:TypeId):Rd (w.alloc (.cells cs e)) (w.heap.size+1) 1 (some ⟨w.heap.size,0,none⟩) cs.size cs.toList:=by
 refine⟨by simp,fun _=>⟨_,_,rfl,by omega,fun j u hu=>?_⟩⟩;rw[cell_of_row _ w.heap.size (0+j) cs e (0,0) (heap_alloc_new w _)];simpa using hu
theorem Qx(w:World)(o:Obj):(w.alloc o).heap.size=w.heap.size+1:=by simp
theorem Qf{p:Addr}{v:Value}{o:Obj}(h:w.cell? p=some v):(w.alloc o).cell? p=some v:=(World.cell?_alloc_some _ _ _ (by rw[h];rfl)).trans h
theorem X5(w:World)(a b c d e:Value)(T:TypeId):(w.alloc (.cells #[a,b,c,d,e] T)).cell? ⟨w.heap.size,0,none⟩=some a:=by simp
theorem QdJ(w:World)(a b c d e:Value)(T:TypeId):(w.alloc (.cells #[a,b,c,d,e] T)).cell? ⟨w.heap.size,3,none⟩=some d:=by simp
theorem Qp{g gk n c:Nat}{cs:Array Value}{ty:TypeId}{t:Bool}(xs:List Int)(k:Int)(hg:gk=w.heap.size)(hx:cs=(iv xs).toArray)(hn:n=xs.length)(hk:w.cell? ⟨g,0,none⟩=some (.int .i64 k))(hl:xs.length<=10)(hres:XF xs k=t):
  Calls Tryz.prog 171 #[.slice (some ⟨gk,0,none⟩) n c,.pointer (some ⟨g,0,none⟩)] (w.alloc (.cells cs ty)) fun e w'=>e=.returned (.bool t)/\w.alloc (.cells cs ty)=w':=by
 subst hg hx hn hres;have h:=Rd.lit w (iv xs).toArray ty;simp only[List.size_toArray,Q07] at h;exact Qjw h Q3 ((World.cell?_alloc_some _ _ _ (by rw[hk];rfl)).trans hk)
theorem X2{w1 w2:World}(h1:Below w.heap.size w w1)(h2:Below w1.heap.size w1 w2):Below w.heap.size w w2:=h1.trans (h2.mono h1.size)
theorem Z2(fn:Fn)(first cap:Array Value)(w:World):(Instr.makeFunc fn first cap).run Tryz.prog w=.ok (.func fn first cap) w:=rfl
def JU(ns:List (List UInt8))(np:Nat):Int:=if 600<np then 14 else if ns.all Qw=false then 7 else if ¬ns.Nodup then 8 else 0
def Q01(ns:List (List UInt8))(k:Value):Prop:=∃i:Nat,i<=ns.length/\k=.int .i64 (i:Int)/\(ns.take i).Nodup
theorem QcP(h:ns[i]? =some s)(hl:(ns.take i).Nodup)(hs:XF (ns.take i) s=false):(ns.take (i+1)).Nodup:=by
 rw[List.take_add_one,h,Option.toList_some,List.nodup_append];refine⟨hl,by simp,fun a ha b hb=>?_⟩;rw[List.mem_singleton.1 hb];rintro rfl;unfold XF at hs;rw[List.contains_iff_mem.2 ha] at hs;cases hs
theorem Qi2(h:ns[i]? =some s)(hs:XF (ns.take i) s=true):¬ns.Nodup:=by
 intro hn;have hm:s∈ns.take i:=List.contains_iff_mem.1 hs;have h1:(ns.take (i+1)).Nodup:=hn.sublist (List.take_sublist _ _);rw[List.take_add_one,h,Option.toList_some,List.nodup_append] at h1;exact h1.2.2 s hm s Qm rfl
theorem Q5x(h:600<np):JU ns np=14:=by unfold JU;rw[if_pos h]
theorem Qeq(h:¬600<np)(h1:ns.all Qw=false):JU ns np=7:=by unfold JU;rw[if_neg h,if_pos h1]
theorem Qf6(h:¬600<np)(h1:ns.all Qw=true)(h2:¬ns.Nodup):JU ns np=8:=by unfold JU;rw[if_neg h,if_neg (by rw[h1];simp),if_pos h2]
theorem Qnl(h:¬600<np)(h1:ns.all Qw=true)(h2:ns.Nodup):JU ns np=0:=by unfold JU;rw[if_neg h,if_neg (by rw[h1];simp),if_neg (by simpa using h2)]
theorem Qv5(ns:List (List UInt8))(i:Nat):((sv ns).drop (0*1)).take (i*1)=sv (ns.take i):=by simp [sv]
theorem Qik{k n:Int}{sb sn sp:Value}(hk:k<1\/4<k):
  Calls Tryz.prog 142 #[.agg #[.int .i64 k,.int .i64 n,sb,sn,sp]] w fun e w'=>e=.returned (.int .i64 5)/\Below w.heap.size w w':=by
 have HK:=Q2 (show XF [(1:Int),2,3,4] k=false by
  unfold XF
  have h1:¬k=1:=by omega
  have h2:¬k=2:=by omega
  have h3:¬k=3:=by omega
  have h4:¬k=4:=by omega
  simp [h1,h2,h3,h4])
 clear hk;have hmf:=Z2;go_enter Tryz.func142,Tryz.ntmps142;go_wp2_with fail
 refine(Qp (t:=false) [1,2,3,4] k X4 rfl rfl (by repeat(first|exact X5 _ _ _ _ _ _ _|refine Qf ?_)) Q1 (by exact HK.out)).mono ?_;rintro e w' ⟨rfl,rfl⟩;go_wp2_with fail
 go_ret;exact⟨rfl,(by repeat(first|exact Below.refl _ _|(refine Below.alloc ?_ Zk _)))⟩
end
section
variable {B g:Nat}{a b:Int}{w w':World}
def FC(w:World)(g:Nat)(a b:Int):Prop:=
 g<w.heap.size/\w.cell? ⟨g,0,none⟩=some (.int .i64 a)/\w.cell? ⟨g,1,none⟩=some (.int .i64 b)/\w.frozen? ⟨g,0,none⟩=false/\w.frozen? ⟨g,1,none⟩=false
theorem FC.new(w:World)(a b:Int):FC (w.alloc (.cells #[.int .i64 a,.int .i64 b] 32)) w.heap.size a b:=⟨by simp,by simp,by simp,by simp,by simp⟩
theorem FC.below(h:FC w g a b)(hb:Below B w w')(hg:g<B):FC w' g a b:=by
 obtain⟨z,c0,c1,f0,f1⟩:=h;exact⟨Nat.lt_of_lt_of_le z hb.size,(hb.cell (by exact hg)).trans c0,(hb.cell (by exact hg)).trans c1,(hb.frozen (by exact hg)).trans f0,(hb.frozen (by exact hg)).trans f1⟩
theorem FC.on(h:FC w g a b)(hb:Below w.heap.size w w'):FC w' g a b:=h.below hb h.1
theorem FC.alloc{w:World}{g:Nat}{a b:Int}(h:FC w g a b)(o:Obj):FC (w.alloc o) g a b:=h.on ((Below.refl _ _).alloc Xo o)
theorem FC.drew(h:FC w g a b):FC w.drew g a b:=h
theorem FC.far{h o:Nat}{v:Value}(k:FC w h a b)(hne:g≠h):FC (w.setCell ⟨g,o,none⟩ v) h a b:=by
 obtain⟨z,c0,c1,f0,f1⟩:=k;refine⟨by simpa using z,(World.cell?_setCell_far w _ _ v (by exact hne)).trans c0,(World.cell?_setCell_far w _ _ v (by exact hne)).trans c1,?_,?_⟩
 ·rw[World.frozen?_setCell];exact f0
 ·rw[World.frozen?_setCell];exact f1
theorem FC.put(h:FC w g a b)(c d:Int):FC ((w.setCell ⟨g,0,none⟩ (.int .i64 c)).setCell ⟨g,1,none⟩ (.int .i64 d)) g c d:=by
 obtain⟨z,c0,c1,f0,f1⟩:=h;refine⟨by simpa using z,?_,?_,?_,?_⟩
 ·rw[World.cell?_setCell_other _ _ _ _ Qm];exact World.cell?_setCell_same w ⟨g,0,none⟩ _ c0
 ·exact World.cell?_setCell_same _ ⟨g,1,none⟩ _ ((World.cell?_setCell_other w ⟨g,0,none⟩ ⟨g,1,none⟩ _ Qm).trans c1)
 ·rw[World.frozen?_setCell,World.frozen?_setCell];exact f0
 ·rw[World.frozen?_setCell,World.frozen?_setCell];exact f1
theorem XT(h:Below B w w')(hg:B<=g)(u v:Value):Below B w ((w'.setCell ⟨g,0,none⟩ u).setCell ⟨g,1,none⟩ v):=
 (h.setCell (p:=⟨g,0,none⟩) hg _).setCell (p:=⟨g,1,none⟩) hg _
theorem JS(w:World)(a:Obj):Below w.heap.size w (w.alloc a):=(Below.refl _ _).alloc Xo a
theorem Q2M(w:World)(a b:Obj):Below w.heap.size w ((w.alloc a).alloc b):=(JS w a).alloc (JS w a).size b
theorem QvU(w:World)(a b c:Obj):Below w.heap.size w (((w.alloc a).alloc b).alloc c):=(Q2M w a b).alloc (Q2M w a b).size c
theorem Ky{w1:World}(h:Below w.heap.size w w1)(o:Obj):Below w.heap.size w (w1.alloc o):=h.alloc h.size o
end
section
variable {a b k n:Int}{a0 a10 a11 a2 a3 a4 a5 a6 a7 a8 a9:Value}
structure Rl where
 name:List UInt8
 kind:Int
 bs:List UInt8
 size:Int
 big:Bool
 mn:Int
 mx:Int
 stop:Int
 count:Int
 elem:Int
 names:List (List UInt8)
 parts:List Int
def XO(k:Int):Bool:=XF [3,5,9] k
def XP(k:Int):Bool:=XF [2,4,5] k
def Z0(k:Int):Bool:=XF [2,3] k
def Qy(k:Int):Bool:=XF [6,10] k
def JV(k:Int):Bool:=XF [6,9] k
def JG(k:Int):Bool:=XF [7,8] k
def inB(n a b:Int):Bool:=decide (a<=n/\n<=b)
theorem QaX(h:a<=n/\n<=b):inB n a b=true:=decide_eq_true h
theorem Qb2(h:¬(a<=n/\n<=b)):inB n a b=false:=decide_eq_false h
theorem Xk(n a b:Int)(w:World):Calls Tryz.prog 95 #[.int .i64 n,.int .i64 a,.int .i64 b] w fun e w'=>e=.returned (.bool (inB n a b))/\w=w':=by
 by_cases h1:a<=n
 ·by_cases h2:n<=b
  ·rw[QaX ⟨h1,h2⟩]
   go_enter Tryz.func95,Tryz.ntmps95;go_wp2_with fail
   exact JI
  ·rw[Qb2 (fun h=>h2 h.2)]
   go_enter Tryz.func95,Tryz.ntmps95;go_wp2_with fail
   exact JI
 ·rw[Qb2 (fun h=>h1 h.1)]
  go_enter Tryz.func95,Tryz.ntmps95;go_wp2_with fail
  exact JI
theorem YG{w:World}{A:Option Addr}{n c:Nat}{ks:List Int}(h:Rd w w.heap.size 1 A n (iv ks))(hn:n<=1048576):
  Calls Tryz.prog 158 #[.agg #[a0,.int .i64 k,a2,a3,a4,a5,a6,a7,a8,a9,a10,a11],.slice A n c] w fun e w'=>e=.returned (.bool (XF ks k))/\Below w.heap.size w w':=by
 have HR:=Q2 h;clear h;go_enter Tryz.func158,Tryz.ntmps158;go_wp2_with fail
 refine(Jf (HR.out.below (JS _ _)) Q3).mono ?_;rintro e w' ⟨rfl,rfl⟩;go_wp2_with fail
 exact Q1Z
theorem VY(w:World):
  Calls Tryz.prog 123 #[.agg #[a0,.int .i64 k,a2,a3,a4,a5,a6,a7,a8,a9,a10,a11]] w fun e w'=>e=.returned (.bool (XO k))/\Below w.heap.size w w':=by
 go_enter Tryz.func123,Tryz.ntmps123;go_wp2_with fail
 refine(YG (ks:=[3,5,9]) ?_ Q1).mono ?_
 ·have h:=Rd.lit (w.alloc (.cells #[a0,.int .i64 k,a2,a3,a4,a5,a6,a7,a8,a9,a10,a11] 65)) #[.int .i64 3,.int .i64 5,.int .i64 9] 3;rw[Qx] at h;refine Rd.more h ?_
  simp
 rintro e w2 ⟨rfl,hb2⟩;go_wp2_with fail
 exact Q8H
theorem Q0b(w:World):
  Calls Tryz.prog 124 #[.agg #[a0,.int .i64 k,a2,a3,a4,a5,a6,a7,a8,a9,a10,a11]] w fun e w'=>e=.returned (.bool (XP k))/\Below w.heap.size w w':=by
 go_enter Tryz.func124,Tryz.ntmps124;go_wp2_with fail
 refine(YG (ks:=[2,4,5]) ?_ Q1).mono ?_
 ·have h:=Rd.lit (w.alloc (.cells #[a0,.int .i64 k,a2,a3,a4,a5,a6,a7,a8,a9,a10,a11] 65)) #[.int .i64 2,.int .i64 4,.int .i64 5] 3;rw[Qx] at h;refine Rd.more h ?_
  simp
 rintro e w2 ⟨rfl,hb2⟩;go_wp2_with fail
 exact Q8H
theorem Q1D(w:World):
  Calls Tryz.prog 125 #[.agg #[a0,.int .i64 k,a2,a3,a4,a5,a6,a7,a8,a9,a10,a11]] w fun e w'=>e=.returned (.bool (Z0 k))/\Below w.heap.size w w':=by
 go_enter Tryz.func125,Tryz.ntmps125;go_wp2_with fail
 refine(YG (ks:=[2,3]) ?_ Q1).mono ?_
 ·have h:=Rd.lit (w.alloc (.cells #[a0,.int .i64 k,a2,a3,a4,a5,a6,a7,a8,a9,a10,a11] 65)) #[.int .i64 2,.int .i64 3] 3;rw[Qx] at h;refine Rd.more h ?_
  simp
 rintro e w2 ⟨rfl,hb2⟩;go_wp2_with fail
 exact Q8H
theorem KC(w:World):
  Calls Tryz.prog 126 #[.agg #[a0,.int .i64 k,a2,a3,a4,a5,a6,a7,a8,a9,a10,a11]] w fun e w'=>e=.returned (.bool (Qy k))/\Below w.heap.size w w':=by
 go_enter Tryz.func126,Tryz.ntmps126;go_wp2_with fail
 refine(YG (ks:=[6,10]) ?_ Q1).mono ?_
 ·have h:=Rd.lit (w.alloc (.cells #[a0,.int .i64 k,a2,a3,a4,a5,a6,a7,a8,a9,a10,a11] 65)) #[.int .i64 6,.int .i64 10] 3;rw[Qx] at h;refine Rd.more h ?_
  simp
 rintro e w2 ⟨rfl,hb2⟩;go_wp2_with fail
 exact Q8H
theorem Q35(w:World):
  Calls Tryz.prog 127 #[.agg #[a0,.int .i64 k,a2,a3,a4,a5,a6,a7,a8,a9,a10,a11]] w fun e w'=>e=.returned (.bool (JV k))/\Below w.heap.size w w':=by
 go_enter Tryz.func127,Tryz.ntmps127;go_wp2_with fail
 refine(YG (ks:=[6,9]) ?_ Q1).mono ?_
 ·have h:=Rd.lit (w.alloc (.cells #[a0,.int .i64 k,a2,a3,a4,a5,a6,a7,a8,a9,a10,a11] 65)) #[.int .i64 6,.int .i64 9] 3;rw[Qx] at h;refine Rd.more h ?_
  simp
 rintro e w2 ⟨rfl,hb2⟩;go_wp2_with fail
 exact Q8H
theorem Q5d(w:World):
  Calls Tryz.prog 138 #[.agg #[a0,.int .i64 k,a2,a3,a4,a5,a6,a7,a8,a9,a10,a11]] w fun e w'=>e=.returned (.bool (JG k))/\Below w.heap.size w w':=by
 go_enter Tryz.func138,Tryz.ntmps138;go_wp2_with fail
 refine(YG (ks:=[7,8]) ?_ Q1).mono ?_
 ·have h:=Rd.lit (w.alloc (.cells #[a0,.int .i64 k,a2,a3,a4,a5,a6,a7,a8,a9,a10,a11] 65)) #[.int .i64 7,.int .i64 8] 3;rw[Qx] at h;refine Rd.more h ?_
  simp
 rintro e w2 ⟨rfl,hb2⟩;go_wp2_with fail
 exact Q8H
end
end Go.Proofs.YtphkhfdmlcnoeaaGreatDoor
