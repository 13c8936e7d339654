/- The layer of own lemmas and contracts, part 2. -/
import Derived.Test.YtegpdgcahcikoaaGreatDoorO1
import Derived.Lib.AppendStr
import Derived.Laws.StructEq
import Derived.MapKept
import Derived.OrdersIn
import Derived.RangeFuncLeaves
import Derived.RangeFuncSeq
set_option linter.unusedVariables false
set_option linter.unusedSimpArgs false
namespace Go.Ide
open Go.RowKit
section
variable {C:BC} {F:Aa} {ρ:Lk} {H:Hp} {w:World}
theorem Ap.rename {H1 H2:Hp}{e:Ay}{b k n:Nat}(m:Ap C F ρ (H1++e::H2) w)(hb:ρ e.k e.g=some b)(hn:ρ k n=none)(hne:∀e'∈H1++e::H2,e'.g≠n):
  Ap C F (ρ.put k n b) (⟨k,n,e.T,e.sz,e.es⟩::(H1++H2)) w/\BW ρ (AN F.X ρ (H1++e::H2)) w (ρ.put k n b) (AN F.X (ρ.put k n b) (⟨k,n,e.T,e.sz,e.es⟩::(H1++H2))) w:=by
 have hold:∀e'∈H1++e::H2,∀b',ρ.put k n b e'.k e'.g=some b'↔ρ e'.k e'.g=some b':=λe' he' b'=>by
  unfold Lk.put;rw[AF λh=>hne e' he' h.2]
 have hmem:∀e',e'∈H1++e::H2↔e'=e\/e'∈H1++H2:=λe'=>by simp;constructor<;>(rintro(h|h|h)<;>simp[h])
 have hO:∀b',AN F.X (ρ.put k n b) (⟨k,n,e.T,e.sz,e.es⟩::(H1++H2)) b'↔AN F.X ρ (H1++e::H2) b':=by
  intro b';unfold AN;refine or_congr Iff.rfl ⟨?_,?_⟩
  ·rintro⟨e',he',h⟩
   rcases BG.1 he' with rfl|he'
   ·rw[EN]at h;exact⟨e,by simp,by rw[hb];exact h⟩
   ·have hm:=(hmem e').2 (.inr he')
    exact⟨e',hm,(hold e' hm b').1 h⟩
  ·rintro⟨e',he',h⟩
   rcases(hmem e').1 he' with rfl|h2
   ·rw[hb]at h;cases h
    exact⟨_,CG ..,EN _ _ _ _⟩
   ·exact⟨e',CK _ h2,(hold e' he' b').2 h⟩
 have hOe:AN F.X (ρ.put k n b) (⟨k,n,e.T,e.sz,e.es⟩::(H1++H2))=AN F.X ρ (H1++e::H2):=funext λb=>propext (hO b)
 have x:BW ρ (AN F.X ρ (H1++e::H2)) w (ρ.put k n b) (AN F.X (ρ.put k n b) (⟨k,n,e.T,e.sz,e.es⟩::(H1++H2))) w:=
  ⟨Af _,λ_ _ _ h=>NR hn h,λb' _ h=>⟨by rw[hOe];exact h,rfl⟩,λ_ cs _ _ h=>⟨cs,_,h,rfl⟩⟩
 have hinj:=m.hok.inj;rw[Ky,D3]at hinj;obtain⟨p1,⟨p2,p3⟩,p4⟩:=hinj;refine⟨⟨⟨λe' he'=>?_,?_,λe' he' b' hb'=>?_⟩,m.os,m.tape,m.output,m.size,m.blk,m.xlt,m.g0,m.gn,m.gw,λ_ _ _ h=>x.link _ _ _ (m.lnk _ _ _ h),m.shp⟩,x⟩
 ·rcases BG.1 he' with rfl|h2
  ·obtain⟨cs,a1,a2⟩:=m.at (e:=e) (by simp) hb
   have z:=a2.mono x;exact .inr ⟨b,cs,EN _ _ _ _,a1,z.len,z.siz,z.one,z.rep⟩
  ·have hm:=(hmem e').2 (.inr h2)
   rcases m.hok.ent e' hm with⟨a1,a2⟩|⟨b',cs,a1,a2,a3⟩
   ·exact .inl ⟨a1,by unfold Lk.put;rw[AF λh=>hne e' hm h.2];exact a2⟩
   ·exact .inr ⟨b',cs,(hold e' hm b').2 a1,a2,a3.mono x⟩
 ·rw[D3,Ky]
  have tr:∀ {e1 e2:Ay},e1∈H1++e::H2->e2∈H1++e::H2->(∀b b',ρ e1.k e1.g=some b->ρ e2.k e2.g=some b'->b≠b')->∀b1 b2,ρ.put k n b e1.k e1.g=some b1->ρ.put k n b e2.k e2.g=some b2->b1≠b2:=
   λh1 h2 h b1 b2 hb1 hb2=>h b1 b2 ((hold _ h1 b1).1 hb1) ((hold _ h2 b2).1 hb2)
  refine⟨λe2 he2 b1 b2 hb1 hb2=>?_,?_,?_,?_⟩
  ·rw[EN]at hb1;cases hb1
   have hm:=(hmem e2).2 (.inr he2);have hb2:=(hold _ hm b2).1 hb2;rcases List.mem_append.1 he2 with h|h
   ·exact λhe=>p4 e2 h e (by simp) b2 b hb2 hb he.symm
   ·exact p2 e2 h b b2 hb hb2
  ·exact p1.imp_of_mem λh1 h2 h=>tr (by simp[h1]) (by simp[h2]) h
  ·exact p3.imp_of_mem λh1 h2 h=>tr (by simp[h1]) (by simp[h2]) h
  ·exact λe1 h1 e2 h2=>tr (by simp[h1]) (by simp[h2]) (p4 e1 h1 e2 (by simp[h2]))
 ·rcases BG.1 he' with rfl|h2
  ·rw[EN]at hb';cases hb'
   exact m.hok.own e (by simp) b hb
  ·have hm:=(hmem e').2 (.inr h2)
   exact m.hok.own e' hm b' ((hold _ hm b').1 hb')
theorem Ap.ghost {k n T sz:Nat}(m:Ap C F ρ H w)(hn:ρ k n=none):Ap C F ρ (⟨k,n,T,sz,[]⟩::H) w/\AN F.X ρ (⟨k,n,T,sz,[]⟩::H)=AN F.X ρ H:=by
 have hO:AN F.X ρ (⟨k,n,T,sz,[]⟩::H)=AN F.X ρ H:=funext λb=>propext (by
  unfold AN;refine or_congr Iff.rfl ⟨?_,λ⟨e,he,h⟩=>⟨e,CK _ he,h⟩⟩;rintro⟨e,he,h⟩;rcases BG.1 he with rfl|he
  ·rw[hn]at h;cases h
  ·exact⟨e,he,h⟩)
 refine⟨⟨⟨λe he=>?_,?_,λe he b hb=>?_⟩,m.os,m.tape,m.output,m.size,m.blk,m.xlt,m.g0,m.gn,m.gw,m.lnk,m.shp⟩,hO⟩
 ·rw[hO]
  rcases BG.1 he with rfl|he
  ·exact .inl ⟨rfl,hn⟩
  ·exact m.hok.ent e he
 ·refine D3.2 ⟨λe he b b' hb _=>?_,m.hok.inj⟩
  rw[hn]at hb;cases hb
 ·rcases BG.1 he with rfl|he
  ·rw[hn]at hb;cases hb
  ·exact m.hok.own e he b hb
def Hy (H:Hp)(esz:Nat):D->Option (List D×Prop)
 | .sl _ sz es=>some (es,sz=esz)
 | .osl k g sz i len=>match Hp.get H k with
  |some e=>some ((e.es.drop i).take len,g=e.g/\sz=e.sz/\sz=esz/\i+len<=e.es.length)
  |none=>none
 | .prim (.slice none 0 0)=>some ([],True)
 |_=>none
structure Nt (ρ:Lk)(O:Nat->Prop)(w:World)(esz:Nat)(es:List D)(a:Addr)(f:Nat->Value):Prop where
 cell:∀j,j<es.length*esz->w.cell? (a.add j)=some (f j)
 one:∀j,j<es.length*esz->one (f j)=true
 siz:∀(i:Nat) (e:D),es[i]?=some e->e.cells.length=esz
 rep:∀(i:Nat) (e:D) (j:Nat) (d:D),es[i]?=some e->e.cells[j]?=some d->AV ρ O w d (f (i*esz+j))
structure NF (ρ:Lk)(O:Nat->Prop)(w:World)(esz:Nat)(es:List D)(f:Nat->Value):Prop where
 one:∀j,j<es.length*esz->one (f j)=true
 siz:∀(i:Nat) (e:D),es[i]?=some e->e.cells.length=esz
 rep:∀(i:Nat) (e:D) (j:Nat) (d:D),es[i]?=some e->e.cells[j]?=some d->AV ρ O w d (f (i*esz+j))
theorem Nt.srcv {ρ:Lk}{O:Nat->Prop}{w:World}{esz:Nat}{es:List D}{a:Addr}{f:Nat->Value}(h:Nt ρ O w esz es a f):NF ρ O w esz es f:=⟨h.one,h.siz,h.rep⟩
theorem b6 {esz:Nat}{d:D}{v:Value}{es:List D}{p:Prop}(m:Ap C F ρ H w)(h:Hy H esz d=some (es,p))(hp:p)(hr:AV ρ (AN F.X ρ H) w d v):
  (v=.slice none 0 0/\es=[])\/∃a c f,v=.slice (some a) es.length c/\es.length<=c/\Nt ρ (AN F.X ρ H) w esz es a f:=by
 unfold Hy at h;split at h<;>try(cases h;done)
 ·cases h
  cases hr with
  |nil=>exact .inl ⟨rfl,rfl⟩
  |emp a=>exact .inr ⟨a,0,λ_=>undef,rfl,by simp,λj hj=>by simp at hj,λj hj=>by simp at hj,λi e h=>by simp at h,λi e j d h=>by simp at h⟩
  |sl f hl hc hO hb hz hcell ho hh=>
   subst hp;refine .inr ⟨_,_,f,by rw[hl],by omega,λj hj=>?_,λj hj=>ho j (by rw[<-hl];exact hj),hz,hh⟩;rw[Hk];exact hcell j (by rw[<-hl];exact hj)
 ·rename_i k g sz i len
  split at h<;>try(cases h;done)
  rename_i e he;cases h;obtain⟨rfl,rfl,rfl,hle⟩:=hp;obtain⟨hm,hk⟩:=Hp.get_mem he;cases hr with
  |onil=>exact .inl ⟨rfl,by simp⟩
  |osl hr hb hc hs hmx=>
   rename_i cap b T cs fz;rw[<-hk]at hr;obtain⟨cs',h1,h2⟩:=m.at hm hr;rw[hb]at h1;cases h1;have hlen:((e.es.drop i).take len).length=len:=by simp;omega
   have hin:∀j,j<len*e.sz->i*e.sz+j<cs.size:=λj hj=>by
    have:(i+len)*e.sz<=e.es.length*e.sz:=CL _ hle
    rw[Bx]at this;have:=h2.len;omega
   have hget:∀(q:Nat) (d:D),((e.es.drop i).take len)[q]?=some d->e.es[i+q]?=some d:=λq d hq=>by
    rw[El]at hq;split at hq
    ·rwa [Gb]at hq
    ·cases hq
   refine .inr ⟨_,cap,λj=>cs.getD (i*e.sz+j) undef,by rw[hlen],by omega,λj hj=>?_,λj hj=>?_,λq d hq=>h2.siz _ d (hget q d hq),λq d j c hq hc=>?_⟩
   ·rw[hlen]at hj
    have:=hin j hj
    rw[Hk];simp[World.cell?,hb,this]
   ·rw[hlen]at hj
    have h':=hin j hj
    have:=h2.one (i*e.sz+j) (cs[i*e.sz+j]) (Bn h')
    simpa[A7,Bn h']using this
   ·have:=h2.rep (i+q) d j c (hget q d hq) hc
    rw[Bx,Ea]at this;exact this
 ·cases h
  cases hr;exact .inl ⟨rfl,rfl⟩
def EG (tt:Nat->Option A0)(H:Hp)(n k:Nat)(g:Operand->D):Op->Option (D×Hp×Prop)
 | .call ⟨.builtin .append,args,tys⟩=>match args.toList with
  | [s,x]=>match tys.toList with
   | [t,t']=>match Nat.beq t t' with
    |true=>match tt t with
     |some i=>match i.ti with
      | .slice e esz eby _=>match Hy H esz (g x)with
       |some (news,p)=>match g s with
        | .osl k1 g1 sz 0 len=>match Hp.get H k1 with
         |some e1=>some (.osl k n esz 0 (len+news.length),⟨k,n,e,esz,e1.es.take len++news⟩::Hp.del H k1,
           p/\g1=e1.g/\sz=e1.sz/\sz=esz/\e1.T=e/\len<=e1.es.length/\(len+news.length)*eby<=140737488355328/\1<=eby/\1<=esz)
         |none=>none
        | .prim (.slice none 0 0)=>some (.osl k n esz 0 news.length,⟨k,n,e,esz,news⟩::H,p/\news.length*eby<=140737488355328/\1<=eby/\1<=esz)
        |_=>none
       |none=>none
      |_=>none
     |none=>none
    |false=>none
   |_=>none
  |_=>none
 |_=>none
theorem Sk {P:Program}{t e:Nat}{ty:Nat}{i:TypeInfo}(ht:P.underlying t=some (.slice e))(hi:P.info? e=some i){ao:Option Addr}{len cap:Nat}(hlc:len<=cap):
  (Builtin.append_ #[t,t] ty #[.slice ao len cap,.slice none 0 0]).run P w=.ok (.slice ao len cap) w:=by
 cases ao<;>simp[Builtin.append_,Cn ht,sizeOf,typeInfo,hi,Builtin.lenOf,hlc,run_firstCells_none,storeCells]
theorem Zy {O:Nat->Prop}{e:Ay}{k g T len:Nat}{news:List D}{f:Nat->Value}{cs cs':Array Value}(h:DF ρ O w e cs)(hl:len<=e.es.length)(hs:NF ρ O w e.sz news f)
  (hlow:∀q,q<len*e.sz->cs'.getD q undef=cs.getD q undef) (hmid:∀j,j<news.length*e.sz->cs'.getD (len*e.sz+j) undef=f j) (hsize:(len+news.length)*e.sz<=cs'.size)
  (hone:∀(q:Nat) (v:Value),cs'[q]?=some v->one v=true):DF ρ O w ⟨k,g,T,e.sz,e.es.take len++news⟩ cs':=by
 have hlen:(e.es.take len).length=len:=by simp;omega
 have hget:∀(i:Nat) (d:D),(e.es.take len++news)[i]?=some d->(i<len/\e.es[i]?=some d)\/(len<=i/\news[i-len]?=some d):=λi d hd=>by
  rcases BH i len with hi|hi
  ·rw[Fj (by omega),El,AG hi]at hd;exact .inl ⟨hi,hd⟩
  ·rw[En (by omega),hlen]at hd;exact .inr ⟨hi,hd⟩
 refine⟨by dsimp only;rw[Bc,hlen];exact hsize,λi d hd=>?_,hone,λi d j c hd hc=>?_⟩
 ·rcases hget i d hd with⟨_,h1⟩|⟨_,h1⟩
  ·exact h.siz i d h1
  ·exact hs.siz _ d h1
 ·dsimp only at hd⊢
  rcases hget i d hd with⟨hi,h1⟩|⟨hi,h1⟩
  ·have hj:j<e.sz:=by rw[<-h.siz i d h1];exact(List.getElem?_eq_some_iff.1 hc).1
   rw[hlow]
   ·exact h.rep i d j c h1 hc
   ·have:(i+1)*e.sz<=len*e.sz:=CL _ hi
    rw[Bx]at this;omega
  ·have hj:j<e.sz:=by rw[<-hs.siz _ d h1];exact(List.getElem?_eq_some_iff.1 hc).1
   have hil:i-len<news.length:=(List.getElem?_eq_some_iff.1 h1).1;have e1:i*e.sz+j=len*e.sz+((i-len)*e.sz+j):=by
    have:i=len+(i-len):=by omega
    conv=>lhs;rw[this,Bx]
    omega
   rw[e1,hmid]
   ·exact hs.rep _ d j c h1 hc
   ·have:(i-len+1)*e.sz<=news.length*e.sz:=CL _ hil
    rw[Bx]at this;omega
structure Lz (P:Program)(t e esz eby:Nat)(ez:Value):Prop where
 under:P.underlying t=some (.slice e)
 inf:∃i:TypeInfo,P.info? e=some i/\i.size=esz/\i.bytes=eby/\i.zero=some ez
 zs:ez.cells.size=esz
 zo:∀(j:Nat) (x:Value),ez.cells[j]?=some x->one x=true
theorem P0 {z:Array Value}(hz:∀(j:Nat) (x:Value),z[j]?=some x->one x=true)(n:Nat):∀(q:Nat) (v:Value),(Builtin.zeroCells z n)[q]?=some v->one v=true:=λq v hv=>by
 unfold Builtin.zeroCells at hv;rw[Array.getElem?_map]at hv;cases hr:(Array.range (n*z.size))[q]? with
 |none=>rw[hr]at hv;cases hv
 |some i=>
  rw[hr]at hv;simp only[JE,BM]at hv;have hi:i<n*z.size:=by
   obtain⟨h1,h2⟩:=Array.getElem?_eq_some_iff.1 hr;simp at h2 h1;omega
  have hpos:0<z.size:=by
   rcases Do z.size with h|h
   ·rw[h]at hi;simp at hi
   ·exact h
  have hlt:=B3 i hpos;rw[<-hv,getElem!_pos z (i%z.size) hlt];exact hz (i%z.size) _ (Bn hlt)
theorem iU {P:Program}{t e esz eby ty:Nat}{ez:Value}(T:Lz P t e esz eby ez){b len cap c:Nat}{cs:Array Value}(hb:w.heap[b]?=some (.cells cs e (0,0)))(hlc:len*esz<=cs.size){news:List D}{a:Addr}{f:Nat->Value}{O:Nat->Prop}
  (hs:Nt ρ O w esz news a f) (hg:cap<len+news.length) (hby:(len+news.length)*eby<=140737488355328) (h1:1<=eby):
  (Builtin.append_ #[t,t] ty #[.slice (some ⟨b,0,none⟩) len cap,.slice (some a) news.length c]).run P w =
   .ok (.slice (some ⟨w.heap.size,0,none⟩) (len+news.length) (grownCap w (len+news.length) cap e))
    (w.drew.alloc (.cells ((cs.toList.take (len*esz)).toArray++((List.range (news.length*esz)).map f).toArray++Builtin.zeroCells ez.cells (grownCap w (len+news.length) cap e-(len+news.length))) e)):=by
 obtain⟨i,i1,rfl,rfl,i4⟩:=T.inf;have hmx:len+news.length<=140737488355328:=BX (by have:=Cb (len+news.length) h1;omega) hby;exact run_append_grow (P:=P) w t ty e i ez T.under i1 i4 ⟨b,0,none⟩ len cap (cs.toList.take (len*i.size)) (by simp;omega) (λj v hv=>by
   rw[El]at hv;split at hv
   ·rw[Hk]
    simp only[JB]at hv;simp[World.cell?,hb,hv]
   ·cases hv) a news.length c ((List.range (news.length*i.size)).map f) (by simp) (λj v hv=>by
   rw[A8]at hv
   by_cases hj:j<news.length*i.size
   ·rw[I8 hj]at hv;cases hv;exact hs.cell j hj
   ·rw[Dj (by simp;omega)]at hv;cases hv) hg (by omega) (growslice_fits hg hby)
structure R0 (P:Program)(w:World)(t u ty e esz eby:Nat)(ez sv:Value)(n:Nat)(f:Nat->Value):Prop where
 room:∀(b len cap:Nat) (cs:Array Value),w.heap[b]?=some (.cells cs e (0,0))->len+n<=cap->len*esz+n*esz<=cs.size ->
  (Builtin.append_ #[t,u] ty #[.slice (some ⟨b,0,none⟩) len cap,sv]).run P w=.ok (.slice (some ⟨b,0,none⟩) (len+n) cap) (w.setRow b (cs.toList.take (len*esz)++(List.range (n*esz)).map f++cs.toList.drop (len*esz+((List.range (n*esz)).map f).length)).toArray)
 grow:∀(b len cap:Nat) (cs:Array Value),w.heap[b]?=some (.cells cs e (0,0))->len*esz<=cs.size->cap<len+n->(len+n)*eby<=140737488355328 ->
  (Builtin.append_ #[t,u] ty #[.slice (some ⟨b,0,none⟩) len cap,sv]).run P w=.ok (.slice (some ⟨w.heap.size,0,none⟩) (len+n) (grownCap w (len+n) cap e))
   (w.drew.alloc (.cells ((cs.toList.take (len*esz)).toArray++((List.range (n*esz)).map f).toArray++Builtin.zeroCells ez.cells (grownCap w (len+n) cap e-(len+n))) e))
 none_:0<n->n*eby<=140737488355328->(Builtin.append_ #[t,u] ty #[.slice none 0 0,sv]).run P w=.ok (.slice (some ⟨w.heap.size,0,none⟩) n (grownCap w n 0 e))
   (w.drew.alloc (.cells (((List.range (n*esz)).map f).toArray++Builtin.zeroCells ez.cells (grownCap w n 0 e-n)) e))
 zero_:n=0->(Builtin.append_ #[t,u] ty #[.slice none 0 0,sv]).run P w=.ok (.slice none 0 0) w
theorem PY {O:Nat->Prop}{k g sz len cap b T:Nat}{cs:Array Value}{fz:Nat×Nat}(hr:ρ k g=some b)(hb:w.heap[b]?=some (.cells cs T fz))(hc:len<=cap)(hs:cap*sz=cs.size)(hm:cap<=maxLen):
  AV ρ O w (.osl k g sz 0 len) (.slice (some ⟨b,0,none⟩) len cap):=by
 have:=AV.osl (O:=O) (ρ:=ρ) (k:=k) (g:=g) (i:=0) (sz:=sz) (len:=len) hr hb hc (by rw[BV];exact hs) (by rw[BV];exact hm)
 rwa [Gz]at this
structure KY (C:BC)(F:Aa)(H:Hp)(ρ:Lk)(w:World)(n:Nat)(d:D)(H':Hp)(v:Value)(ρ':Lk)(w':World):Prop where
 mem:Ap C F ρ' H' w'
 ext:BW ρ (AN F.X ρ H) w ρ' (AN F.X ρ' H') w'
 far:∀k g',g'≠n->ρ' k g'=ρ k g'
 rep:AV ρ' (AN F.X ρ' H') w' d v
theorem Py {xs ys:Array Value}{q:Nat}(h:q<xs.size):(xs++ys).getD q undef=xs.getD q undef:=by
 simp only[A7];rw[Ga h]
theorem gY {xs ys:Array Value}{q:Nat}(h:xs.size<=q):(xs++ys).getD q undef=ys.getD (q-xs.size) undef:=by
 simp only[A7];rw[GZ h]
theorem V5 {t e0 esz eby ty n k:Nat}{ez:Value}(T:Lz C.P t e0 esz eby ez){H1 H2:Hp}{e:Ay}{b len cap:Nat}(m:Ap C F ρ (H1++e::H2) w)(hr:ρ e.k e.g=some b)(hT:e.T=e0)(hsz:esz=e.sz)(hle:len<=e.es.length)
  {cs:Array Value} (hbk:w.heap[b]?=some (.cells cs e.T (0,0))) (hcs:cap*esz=cs.size) (hcap:cap<=maxLen) (fr:∀k,ρ k n=none) (hlt:∀e'∈H1++e::H2,e'.g≠n) {news:List D} {f:Nat->Value} {u:Nat} {sv:Value}
  (S:R0 C.P w t u ty e0 esz eby ez sv news.length f) (hs:NF ρ (AN F.X ρ (H1++e::H2)) w esz news f) (hby:(len+news.length)*eby<=140737488355328) (h1:1<=eby):
  ∃v ρ' w',(Builtin.append_ #[t,u] ty #[.slice (some ⟨b,0,none⟩) len cap,sv]).run C.P w=.ok v w' /\
   KY C F (H1++e::H2) ρ w n (.osl k n esz 0 (len+news.length)) (⟨k,n,e0,esz,e.es.take len++news⟩::(H1++H2)) v ρ' w':=by
 subst hT hsz;obtain⟨cs0,q1,q2⟩:=m.at (e:=e) (by simp) hr;rw[hbk]at q1;cases q1;have hlc:len*e.sz<=cs.size:=BX (CL _ hle) q2.len;have hmx:len+news.length<=maxLen:=by
  have:=Cb (len+news.length) h1
  simp only[maxLen];omega
 have hlim:∀q,q<len*e.sz->q<cs.size:=λq hq=>by omega
 by_cases hroom:len+news.length<=cap
 ·have hfit:len*e.sz+news.length*e.sz<=cs.size:=by rw[<-hcs,<-Bx];exact CL _ hroom
  have run:=S.room b len cap cs hbk hroom hfit;generalize hcs':(cs.toList.take (len*e.sz)++(List.range (news.length*e.sz)).map f++cs.toList.drop (len*e.sz+((List.range (news.length*e.sz)).map f).length)).toArray=cs' at run;have hsz':cs'.size=cs.size:=by rw[<-hcs'];simp;omega
  have get:∀q,cs'[q]?=if q<len*e.sz then cs[q]? else if q<len*e.sz+news.length*e.sz then some (f (q-len*e.sz))else cs[q]?:=λq=>by
   rw[<-hcs'];simp only[Jm];rw[De];have hl1:(cs.toList.take (len*e.sz)).length=len*e.sz:=by simp;omega
   rcases BH q (len*e.sz)with hq|hq
   ·rw[Fj (by omega),AG hq,El,AG hq];simp
   ·rw[En (by omega),AF (by omega),hl1]
    rcases BH (q-len*e.sz) (news.length*e.sz)with hq2|hq2
    ·rw[Fj (by simp;omega),AG (by omega),A8,I8 hq2];rfl
    ·rw[En (by simp;omega),AF (by omega),Gb]
     simp only[Ac,List.length_range];rw[show len*e.sz+news.length*e.sz+(q-len*e.sz-news.length*e.sz)=q from by omega];simp
  have ho:DF ρ (AN F.X ρ (H1++e::H2)) w ⟨e.k,e.g,e.T,e.sz,e.es.take len++news⟩ cs':=Zy q2 hle hs
   (λq hq=>by rw[A7,get,AG hq,<-A7])
   (λj hj=>by rw[A7,get,AF (by omega),AG (by omega),show len*e.sz+j-len*e.sz=j from by omega];rfl)
   (by rw[hsz',Bx];exact hfit) (λq v hv=>by
    rw[get]at hv;split at hv
    ·exact q2.one _ _ hv
    ·split at hv
     ·cases hv;exact hs.one _ (by omega)
     ·exact q2.one _ _ hv)
  obtain⟨m1,x1⟩:=m.write (e':=⟨e.k,e.g,e.T,e.sz,e.es.take len++news⟩) hr hbk rfl rfl rfl hsz' ho;obtain⟨m2,x2⟩:=m1.rename (e:=⟨e.k,e.g,e.T,e.sz,e.es.take len++news⟩) (k:=k) (n:=n) hr (fr k) (λe' he'=>by
   rcases List.mem_append.1 he' with h|h
   ·exact hlt e' (by simp[h])
   ·rcases BG.1 h with rfl|h
    ·exact hlt e (by simp)
    ·exact hlt e' (by simp[h]))
  rw[TQ hbk]at run;refine⟨_,ρ.put k n b,_,run,?_⟩;refine⟨m2,x1.trans x2,λk' g' hg=>by unfold Lk.put;rw[AF λh=>hg h.2],?_⟩;have hlt:b<w.heap.size:=(Array.getElem?_eq_some_iff.1 hbk).1;exact PY (b:=b) (T:=e.T) (cs:=cs') (fz:=(0,0)) (EN _ _ _ _) (by rw[LG _ _ _ _ _ hlt,AG rfl]) hroom (by rw[hsz',<-hcs]) hcap
 ·have run:=S.grow b len cap cs hbk hlc (Nat.lt_of_not_le hroom) hby
  generalize hcap':grownCap w (len+news.length) cap e.T=cap' at run;have hge:len+news.length<=cap':=by rw[<-hcap'];exact grownCap_ge ..
  have hmx':cap'<=maxLen:=by rw[<-hcap'];exact grownCap_le_maxLen _ _ _ _ hmx
  generalize hcs':(cs.toList.take (len*e.sz)).toArray++((List.range (news.length*e.sz)).map f).toArray++Builtin.zeroCells ez.cells (cap'-(len+news.length))=cs' at run;have s1:(cs.toList.take (len*e.sz)).toArray.size=len*e.sz:=by simp;omega
  have s2:((List.range (news.length*e.sz)).map f).toArray.size=news.length*e.sz:=by simp
  have hsz':cs'.size=cap'*e.sz:=by
   rw[<-hcs',I9,I9,s1,s2,size_zeroCells,T.zs,<-Bx,<-Bx]
   congr 1;omega
  obtain⟨m0,hO0⟩:=m.sub (H':=H1++H2) (Pl (Pa _) (Pf _ _));have x0:BW ρ (AN F.X ρ (H1++e::H2)) w ρ (AN F.X ρ (H1++H2)) w.drew:=
   ⟨Af _,λ_ _ _ h=>h,λb' _ h=>⟨λh'=>h (hO0 b' h'),rfl⟩,λ_ cs _ _ h=>⟨cs,_,h,rfl⟩⟩
  have ho:DF ρ (AN F.X ρ (H1++H2)) w.drew ⟨k,n,e.T,e.sz,e.es.take len++news⟩ cs':=by
   have hlow:∀q,q<len*e.sz->cs'.getD q undef=cs.getD q undef:=λq hq=>by
    rw[<-hcs',Py (by rw[I9];omega),Py (by omega)];simp only[A7,Jm,El,AG hq];simp
   have hmid:∀j,j<news.length*e.sz->cs'.getD (len*e.sz+j) undef=f j:=λj hj=>by
    rw[<-hcs',Py (by rw[I9];omega),gY (by omega),s1,show len*e.sz+j-len*e.sz=j from by omega];simp[A7,hj]
   refine(Zy q2 hle hs hlow hmid (by rw[hsz'];exact CL _ hge) λq v hv=>?_).mono x0;rw[<-hcs']at hv;rcases BH q (len*e.sz+news.length*e.sz)with hq|hq
   ·rw[Ga (by rw[I9];omega)]at hv
    rcases BH q (len*e.sz)with hq2|hq2
    ·rw[Ga (by omega)]at hv
     simp only[Jm,El,AG hq2]at hv;exact q2.one q v (by simpa using hv)
    ·rw[GZ (by omega),s1]at hv
     simp only[Jm,A8]at hv;rw[I8 (by omega)]at hv;cases hv;exact hs.one _ (by omega)
   ·rw[GZ (by rw[I9];omega)]at hv
    exact P0 T.zo _ _ v hv
  obtain⟨m1,x1⟩:=m0.drew.alloc ⟨k,n,e.T,e.sz,e.es.take len++news⟩ cs' (fr k) (λe' he' h=>hlt e' (by rcases List.mem_append.1 he' with h|h<;>simp[h]) h.2) ho;refine⟨_,_,_,run,m1,x0.trans x1,λk' g' hg=>by unfold Lk.put;rw[AF λh=>hg h.2],?_⟩;exact PY (b:=w.heap.size) (T:=e.T) (cs:=cs') (fz:=(0,0)) (EN _ _ _ _) (by rw[EI];exact AG rfl) hge hsz'.symm hmx'
theorem Sx {t e0 esz eby ty:Nat}{P:Program}{O:Nat->Prop}{ez:Value}(T:Lz P t e0 esz eby ez)(h1:1<=eby){news:List D}{a:Addr}{c:Nat}{f:Nat->Value}(hs:Nt ρ O w esz news a f):
  R0 P w t t ty e0 esz eby ez (.slice (some a) news.length c) news.length f where
 room b len cap cs hbk hroom hfit:=by
  obtain⟨i,i1,rfl,i3,i4⟩:=T.inf;exact run_append_room (P:=P) w t ty e0 i T.under i1 b len cap cs hbk a news.length c ((List.range (news.length*i.size)).map f) (by simp) (λj v hv=>by
   rw[A8]at hv
   by_cases hj:j<news.length*i.size
   ·rw[I8 hj]at hv;cases hv;exact hs.cell j hj
   ·rw[Dj (by simp;omega)]at hv;cases hv) (λu hu=>by
    rw[bP];obtain⟨j,hj,rfl⟩:=List.mem_map.1 hu;exact hs.one j (by simpa using hj)) hroom (by simp;exact hfit)
 grow b len cap cs hb hlc hg hby:=iU (P:=P) (ty:=ty) (c:=c) T hb hlc hs hg hby h1
 none_ h0 hby:=by
  obtain⟨i,i1,rfl,rfl,i4⟩:=T.inf;have hmx:news.length<=maxLen:=by
   have:=Cb news.length h1
   simp only[maxLen];omega
  exact run_append_nil (P:=P) w t ty e0 i ez T.under i1 i4 a news.length c ((List.range (news.length*i.size)).map f) (by simp) (λj v hv=>by
   rw[A8]at hv
   by_cases hj:j<news.length*i.size
   ·rw[I8 hj]at hv;cases hv;exact hs.cell j hj
   ·rw[Dj (by simp;omega)]at hv;cases hv) h0 (by simp only[maxLen]at hmx;omega) (by omega)
 zero_ h0:=by
  obtain⟨i,i1,rfl,rfl,i4⟩:=T.inf;simp[Builtin.append_,Cn T.under,sizeOf,typeInfo,i1,Builtin.lenOf,Builtin.firstCells,loadCells,loadCellsFrom,h0]
theorem append_nil {t e0 esz eby ty n k:Nat}{ez:Value}(T:Lz C.P t e0 esz eby ez)(m:Ap C F ρ H w)(fr:∀k,ρ k n=none)(hlt:∀e'∈H,e'.g≠n){news:List D}{f:Nat->Value}{u:Nat}{sv:Value}
  (S:R0 C.P w t u ty e0 esz eby ez sv news.length f) (hs:NF ρ (AN F.X ρ H) w esz news f) (hby:news.length*eby<=140737488355328) (h1:1<=eby):
  ∃v ρ' w',(Builtin.append_ #[t,u] ty #[.slice none 0 0,sv]).run C.P w=.ok v w' /\
   KY C F H ρ w n (.osl k n esz 0 news.length) (⟨k,n,e0,esz,news⟩::H) v ρ' w':=by
 rcases Do news.length with h0|h0
 ·have hn:=FU h0
  subst hn;obtain⟨m1,hO⟩:=m.ghost (k:=k) (n:=n) (T:=e0) (sz:=esz) (fr k);exact⟨.slice none 0 0,ρ,w,S.zero_ rfl,m1,by rw[hO];exact .refl _ _ _,λ_ _ _=>rfl,.onil _ _ _⟩
 ·have hmx:news.length<=maxLen:=by
   have:=Cb news.length h1
   simp only[maxLen];omega
  have run:=S.none_ h0 hby;generalize hcap':grownCap w news.length 0 e0=cap' at run;have hge:news.length<=cap':=by rw[<-hcap'];exact grownCap_ge ..
  have hmx':cap'<=maxLen:=by rw[<-hcap'];exact grownCap_le_maxLen _ _ _ _ hmx
  generalize hcs':((List.range (news.length*esz)).map f).toArray++Builtin.zeroCells ez.cells (cap'-news.length)=cs' at run;have s2:((List.range (news.length*esz)).map f).toArray.size=news.length*esz:=by simp
  have hsz':cs'.size=cap'*esz:=by
   rw[<-hcs',I9,s2,size_zeroCells,T.zs,<-Bx]
   congr 1;omega
  have hmid:∀j,j<news.length*esz->cs'.getD j undef=f j:=λj hj=>by
   rw[<-hcs',Py (by omega)];simp[A7,hj]
  have ho:DF ρ (AN F.X ρ H) w.drew ⟨k,n,e0,esz,news⟩ cs':=by
   refine DF.mono ⟨?_,hs.siz,λq v hv=>?_,λq d j c hd hc=>?_⟩ (BW.drew ρ (AN F.X ρ H) w)
   ·dsimp only;rw[hsz'];exact CL _ hge
   ·rw[<-hcs']at hv
    rcases BH q (news.length*esz)with hq|hq
    ·rw[Ga (by omega)]at hv
     simp only[Jm,A8]at hv;rw[I8 hq]at hv;cases hv;exact hs.one _ hq
    ·rw[GZ (by omega)]at hv
     exact P0 T.zo _ _ v hv
   ·dsimp only at hd⊢
    have hj:j<esz:=by rw[<-hs.siz q d hd];exact(List.getElem?_eq_some_iff.1 hc).1
    have hq:q<news.length:=(List.getElem?_eq_some_iff.1 hd).1;rw[hmid]
    ·exact hs.rep q d j c hd hc
    ·have:(q+1)*esz<=news.length*esz:=CL _ hq
     rw[Bx]at this;omega
  obtain⟨m1,x1⟩:=m.drew.alloc ⟨k,n,e0,esz,news⟩ cs' (fr k) (λe' he' h=>hlt e' he' h.2) ho;refine⟨_,_,_,run,m1,(BW.drew _ _ _).trans x1,λk' g' hg=>by unfold Lk.put;rw[AF λh=>hg h.2],?_⟩;exact PY (b:=w.heap.size) (T:=e0) (cs:=cs') (fz:=(0,0)) (EN _ _ _ _) (by rw[EI];exact AG rfl) hge hsz'.symm hmx'
theorem TK {tt:Nat->Option A0}{o:Oper}{g:Operand->D}{ev:Operand->Value}{n k:Nat}{d:D}{H':Hp}{p:Prop}(htt:Cr C.P tt)(m:Ap C F ρ H w)(fr:∀k,ρ k n=none)(hlt:∀e∈H,e.g≠n)
  (hg:∀x,AV ρ (AN F.X ρ H) w (g x) (ev x)) (h:EG tt H n k g o.op=some (d,H',p)) (hp:p):
  ∃v ρ' w',(execOp ev o).run C.P w=.ok (.value v) w'/\KY C F H ρ w n d H' v ρ' w':=by
 unfold EG at h;split at h<;>try(cases h;done)
 rename_i args tys ho;split at h<;>try(cases h;done)
 rename_i s x hargs;split at h<;>try(cases h;done)
 rename_i t t' htys;split at h<;>try(cases h;done)
 rename_i htt';obtain rfl:=B5 htt';split at h<;>try(cases h;done)
 rename_i i hi;split at h<;>try(cases h;done)
 rename_i e esz eby ez hk;split at h<;>try(cases h;done)
 rename_i news q hsrc;obtain⟨k1,⟨inf,k2,k3,k4,k5⟩,k6,k7⟩:=Eg (htt _ _ hi) hk;have T:Lz C.P t e esz eby ez:=⟨k1,⟨inf,k2,k3,k4,k5⟩,k6,k7⟩
 have hargs':args = #[s,x]:=by rw[<-SR (xs:=args),hargs]
 have htys':tys = #[t,t]:=by rw[<-SR (xs:=tys),htys]
 subst hargs' htys';have fin:∀v1 v2,ev s=v1->ev x=v2->(∃v ρ' w',(Builtin.append_ #[t,t] o.type #[v1,v2]).run C.P w=.ok v w'/\KY C F H ρ w n d H' v ρ' w') ->
   ∃v ρ' w',(execOp ev o).run C.P w=.ok (.value v) w'/\KY C F H ρ w n d H' v ρ' w':=by
  rintro v1 v2 h1 h2 ⟨v,ρ',w',h3,h4⟩;refine⟨v,ρ',w',?_,h4⟩;unfold execOp;simp only[ho,resolve,invoke,builtin,Sem.run_bind,Sem.run_pure,Result.andThen_ok,List.map_toArray,Cu,List.map_nil,h1,h2,h3]
 have hx:=hg x;have hsr:=hg s;generalize hvx:ev x=vx at hx;generalize hvs:ev s=vs at hsr;refine fin vs vx hvs hvx ?_;split at h<;>try(cases h;done)
 ·rename_i k0 g1 sz len hgs
  split at h<;>try(cases h;done)
  rename_i e1 he1;simp only[BM,Bh]at h;obtain⟨rfl,rfl,rfl⟩:=h;obtain⟨hq,rfl,rfl,rfl,rfl,hle,hby,hb1,hs1⟩:=hp;obtain⟨hm,hke⟩:=Hp.get_mem he1;obtain⟨H1,H2,a1,_,a3⟩:=MB e1 he1;rw[hgs]at hsr;rw[a3];rcases b6 m hsrc hq hx with⟨rfl,rfl⟩|⟨a,c,f,rfl,hc,hs⟩
  ·
   simp only[HN,DW,C5];cases hsr with
   |onil=>
    obtain⟨m0,hO0⟩:=m.sub (H':=H1++H2) (by rw[a1];exact Pl (Pa _) (Pf _ _));obtain⟨m1,hO⟩:=m0.ghost (k:=k) (n:=n) (T:=e1.T) (sz:=e1.sz) (fr k);refine⟨_,ρ,w,Sk k1 k2 (Af _),by simpa using m1,?_,λ_ _ _=>rfl,.onil _ _ _⟩;simp only[NX];rw[hO];exact⟨Af _,λ_ _ _ h=>h,λb' _ h=>⟨λh'=>h (hO0 b' h'),rfl⟩,λ_ cs _ _ h=>⟨cs,_,h,rfl⟩⟩
   |osl hr hb hc hs hmx=>
    rename_i cap b T' cs fz;rw[<-hke]at hr;obtain⟨cs0,q1,q2⟩:=m.at hm hr;rw[hb]at q1;cases q1;rw[a1]at m;have q3:DF ρ (AN F.X ρ (H1++e1::H2)) w ⟨e1.k,e1.g,e1.T,e1.sz,e1.es.take len⟩ cs:=by
     rw[<-a1];refine⟨by dsimp only;simp only[Bd];exact BX (CL _ (Nat.min_le_right _ _)) q2.len,λi d hd=>?_,q2.one,λi d j c hd hc=>?_⟩
     ·dsimp only at hd;rw[El]at hd;split at hd
      ·exact q2.siz i d hd
      ·cases hd
     ·dsimp only at hd⊢;rw[El]at hd;split at hd
      ·exact q2.rep i d j c hd hc
      ·cases hd
    obtain⟨m1,x1⟩:=m.write (e':=⟨e1.k,e1.g,e1.T,e1.sz,e1.es.take len⟩) hr hb rfl rfl rfl rfl q3;have hsame:World.setBlk w b cs e1.T=w:=by
     unfold World.setBlk
     have:w.heap.setIfInBounds b (.cells cs e1.T (0,0))=w.heap:=by
      apply Array.ext_getElem?;intro q;rw[IZ]
      by_cases hq:b=q
      ·subst hq;rw[AG rfl,AG (Array.getElem?_eq_some_iff.1 hb).1,hb]
      ·rw[AF hq]
     rw[this]
    rw[hsame]at m1 x1;obtain⟨m2,x2⟩:=m1.rename (e:=⟨e1.k,e1.g,e1.T,e1.sz,e1.es.take len⟩) (k:=k) (n:=n) hr (fr k) (λe' he'=>by
     rcases List.mem_append.1 he' with h|h
     ·exact hlt e' (by rw[a1];simp[h])
     ·rcases BG.1 h with rfl|h
      ·exact hlt e1 hm
      ·exact hlt e' (by rw[a1];simp[h]))
    refine⟨_,_,w,Sk k1 k2 hc,m2,by rw[a1];exact x1.trans x2,λk' g' hg=>by unfold Lk.put;rw[AF λh=>hg h.2],?_⟩;have fin:=AV.osl (ρ:=ρ.put k n b) (O:=AN F.X (ρ.put k n b) (⟨k,n,e1.T,e1.sz,e1.es.take len⟩::(H1++H2))) (k:=k) (g:=n) (i:=0) (EN _ _ _ _) hb hc hs hmx;exact fin
  ·cases hsr with
   |onil=>
    obtain⟨m0,hO0⟩:=m.sub (H':=H1++H2) (by rw[a1];exact Pl (Pa _) (Pf _ _));have x0:BW ρ (AN F.X ρ H) w ρ (AN F.X ρ (H1++H2)) w:=⟨Af _,λ_ _ _ h=>h,λb' _ h=>⟨λh'=>h (hO0 b' h'),rfl⟩,λ_ cs _ _ h=>⟨cs,_,h,rfl⟩⟩
    have hs':NF ρ (AN F.X ρ (H1++H2)) w e1.sz news f:=⟨hs.one,hs.siz,λi e j d h1 h2=>(hs.rep i e j d h1 h2).mono x0⟩
    obtain⟨v,ρ',w',r1,r2⟩:=append_nil (ty:=o.type) (k:=k) T m0 fr (λe' he'=>hlt e' (by rw[a1];rcases List.mem_append.1 he' with h|h<;>simp[h])) (Sx (c:=c) T hb1 hs) hs' (by simpa using hby) hb1;refine⟨v,ρ',w',r1,?_⟩;simp only[BV,NX,EZ];exact⟨r2.mem,x0.trans r2.ext,r2.far,r2.rep⟩
   |osl hr hb hc' hcs hmx=>
    rename_i cap b T' cs fz;rw[<-hke]at hr;obtain⟨cs0,q1,q2⟩:=m.at hm hr;rw[hb]at q1;cases q1;rw[a1]at m hlt hs;obtain⟨v,ρ',w',r1,r2⟩:=V5 (ty:=o.type) (k:=k) T m hr rfl rfl hle hb (by simpa using hcs) (by simpa using hmx) fr hlt (Sx (c:=c) T hb1 hs) hs.srcv hby hb1;rw[a1];refine⟨v,ρ',w',?_,r2⟩;simpa using r1
 ·rename_i hgs
  simp only[BM,Bh]at h;obtain⟨rfl,rfl,rfl⟩:=h;obtain⟨hq,hby,hb1,hs1⟩:=hp;rw[hgs]at hsr;cases hsr;rcases b6 m hsrc hq hx with⟨rfl,rfl⟩|⟨a,c,f,rfl,hc,hs⟩
  ·obtain⟨m1,hO⟩:=m.ghost (k:=k) (n:=n) (T:=e) (sz:=esz) (fr k)
   exact⟨_,ρ,w,Sk k1 k2 (Af _),m1,by rw[hO];exact .refl _ _ _,λ_ _ _=>rfl,.onil _ _ _⟩
  ·exact append_nil (ty:=o.type) (k:=k) T m fr hlt (Sx (c:=c) T hb1 hs) hs.srcv hby hb1
end
section
variable {C:BC} {F:Aa} {s:St} {ops:Array Oper} {o:Oper} {os:List Oper} {K:St->Prop}
theorem Vh:∀ {H:Hp} {k:Nat} {e:Ay},e∈Hp.del H k->e∈H
 |e0::r,k,e,h=>by
  simp only[Hp.del]at h;split at h
  ·exact CK _ h
  ·rcases BG.1 h with rfl|h
   ·exact CG ..
   ·exact CK _ (Vh h)
theorem o6 {tt:Nat->Option A0}{H:Hp}{n k:Nat}{g:Operand->D}{op:Op}{d:D}{H':Hp}{p:Prop}(h:EG tt H n k g op=some (d,H',p))(hl:∀e∈H,e.g<n):∀e∈H',e.g<n+1:=by
 unfold EG at h
 (repeat' split at h)<;>try(cases h;done)
 ·cases h
  intro e he;rcases BG.1 he with rfl|he
  ·exact HQ _
  ·exact DJ (hl e (Vh he))
 ·cases h
  intro e he;rcases BG.1 he with rfl|he
  ·exact HQ _
  ·exact DJ (hl e he)
theorem gE {tt:Nat->Option A0}(k:Nat)(htt:Cr C.P tt){d:D}{H':Hp}{p:Prop}(hw:CD ops s.env o=some true)(he:EG tt s.H s.n k (BI s.env) o.op=some (d,H',p))(hp:p)
  (h:BJ C F ops os ⟨Bb s.env o.dst d,H',s.n+1⟩ K):BJ C F ops (o::os) s K:=
 BJ.step hw (λρ a w hs=>by
  obtain⟨v,ρ',w',h1,h2⟩:=TK htt hs.mem (λk=>hs.fresh k _ (Af _)) (λe he=>Nat.ne_of_lt (hs.gen e he)) (DL hs.env) he hp;exact⟨v,ρ',w',.inl h1,⟨h2.mem,h2.ext,λk g hg=>by rw[h2.far k g (by omega)];exact hs.fresh k g (by omega),h2.rep⟩,o6 he hs.gen⟩) h
end
def IL (s:ByteArray):List D:=s.data.toList.map λb=>.prim (.int .u8 (b.toNat:Int))
theorem JG (s:ByteArray):(IL s).length=s.size:=by
 unfold IL;rw[Ac,H4];rfl
def JS (s:ByteArray)(j:Nat):Value:=.int .u8 ((s.data.toList.getD j 0).toNat:Int)
theorem Sl (s:ByteArray):(List.range (s.size*1)).map (JS s)=Lib.strCells s:=by
 refine Pb λj=>?_
 have hs:s.data.toList.length=s.size:=by rw[H4];rfl
 rw[EF,A8,Lib.strCells,A8];rcases BH j s.size with h|h
 ·rw[I8 h,A9 (by omega)]
  simp[JS,DR,A9 (show j<s.data.toList.length by omega)]
 ·rw[Dj (by simp;omega),Dj (by omega)];rfl
section
variable {C:BC} {F:Aa} {ρ:Lk} {H:Hp} {w:World}
theorem Sz {O:Nat->Prop}(s:ByteArray):NF ρ O w 1 (IL s) (JS s) where
 one _ _:=rfl
 siz i e h:=by
  unfold IL at h;rw[A8]at h;obtain⟨b,_,rfl⟩:=Option.map_eq_some_iff.1 h;rfl
 rep i e j d h1 h2:=by
  unfold IL at h1;rw[A8]at h1;obtain⟨b,hb,rfl⟩:=Option.map_eq_some_iff.1 h1;rcases j with _|j
  ·cases h2
   have:JS s (i*1+0)=.int .u8 (b.toNat:Int):=by
    unfold JS;rw[EF,DW,DR,hb];rfl
   rw[this];exact .prim _
  ·simp[D.cells]at h2
theorem WO {P:Program}{t u ty e0:Nat}(T:Lz P t e0 1 1 (.int .u8 0))(hu:P.underlying u=some .string)(s:ByteArray):
  R0 P w t u ty e0 1 1 (.int .u8 0) (.string s) s.size (JS s) where
 room b len cap cs hbk hroom hfit:=by
  obtain⟨i,i1,i2,i3,i4⟩:=T.inf;rw[Sl,Lib.strCells_length,EF];exact Lib.run_append_room_string w t u ty e0 i T.under hu i1 i2 b len cap cs hbk s hroom (by omega)
 grow b len cap cs hb hlc hg hby:=by
  obtain⟨i,i1,i2,i3,i4⟩:=T.inf;rw[Sl];rw[EF]at hlc⊢;exact Lib.run_append_grow_string w t u ty e0 i (.int .u8 0) T.under hu i1 i4 ⟨b,0,none⟩ len cap (cs.toList.take len) (by rw[i2];simp;omega) (λj v hv=>by
   rw[El]at hv;split at hv
   ·rw[Hk]
    simp only[JB]at hv;simp[World.cell?,hb,hv]
   ·cases hv) s hg (by omega) (by rw[i3];exact growslice_fits hg (by omega))
 none_ h0 hby:=by
  obtain⟨i,i1,i2,i3,i4⟩:=T.inf;have hr:=run_append_nil_string (P:=P) w t u ty e0 i (.int .u8 0) T.under hu i1 i4 s (by omega) (by omega) (by rw[i3];omega);have e1:(s.data.map λb=>Value.int .u8 b.toNat)=(Lib.strCells s).toArray:=by
   apply Array.ext';simp[Lib.strCells]
  rw[Sl,<-e1];exact hr
 zero_ h0:=by
  obtain⟨i,i1,i2,i3,i4⟩:=T.inf;have hf:=Lib.run_firstCells_string (P:=P) w 1 s;rw[h0]at hf;simp[Builtin.append_,Cn T.under,Cn hu,sizeOf,typeInfo,i1,i2,Builtin.lenOf,h0,hf]
def NK (tt:Nat->Option A0)(H:Hp)(n k:Nat)(g:Operand->D):Op->Option (D×Hp×Prop)
 | .call ⟨.builtin .append,args,tys⟩=>match args.toList with
  | [s,x]=>match tys.toList with
   | [t,t']=>match tt t' with
    |some i'=>match i'.ti with
     | .string=>match tt t with
      |some i=>match i.ti with
       | .slice e esz eby ez=>match g x with
        | .prim (.string str)=>match g s with
         | .osl k1 g1 sz 0 len=>match Hp.get H k1 with
          |some e1=>some (.osl k n 1 0 (len+str.size),⟨k,n,e,1,e1.es.take len++IL str⟩::Hp.del H k1,
            esz=1/\eby=1/\ez=.int .u8 0/\g1=e1.g/\sz=e1.sz/\sz=1/\e1.T=e/\len<=e1.es.length/\len+str.size<=140737488355328)
          |none=>none
         | .prim (.slice none 0 0)=>some (.osl k n 1 0 str.size,⟨k,n,e,1,IL str⟩::H,esz=1/\eby=1/\ez=.int .u8 0/\str.size<=140737488355328)
         |_=>none
        |_=>none
       |_=>none
      |none=>none
     |_=>none
    |none=>none
   |_=>none
  |_=>none
 |_=>none
theorem jH {tt:Nat->Option A0}{o:Oper}{g:Operand->D}{ev:Operand->Value}{n k:Nat}{d:D}{H':Hp}{p:Prop}(htt:Cr C.P tt)(m:Ap C F ρ H w)(fr:∀k,ρ k n=none)(hlt:∀e∈H,e.g≠n)
  (hg:∀x,AV ρ (AN F.X ρ H) w (g x) (ev x)) (h:NK tt H n k g o.op=some (d,H',p)) (hp:p):
  ∃v ρ' w',(execOp ev o).run C.P w=.ok (.value v) w'/\KY C F H ρ w n d H' v ρ' w':=by
 unfold NK at h;split at h<;>try(cases h;done)
 rename_i args tys ho;split at h<;>try(cases h;done)
 rename_i s x hargs;split at h<;>try(cases h;done)
 rename_i t t' htys;split at h<;>try(cases h;done)
 rename_i i' hi';split at h<;>try(cases h;done)
 rename_i hk';split at h<;>try(cases h;done)
 rename_i i hi;split at h<;>try(cases h;done)
 rename_i e esz eby ez hk;split at h<;>try(cases h;done)
 rename_i str hgx;have hu:=K9 (htt _ _ hi') hk';obtain⟨k1,⟨inf,k2,k3,k4,k5⟩,k6,k7⟩:=Eg (htt _ _ hi) hk;have T0:Lz C.P t e esz eby ez:=⟨k1,⟨inf,k2,k3,k4,k5⟩,k6,k7⟩
 have hargs':args = #[s,x]:=by rw[<-SR (xs:=args),hargs]
 have htys':tys = #[t,t']:=by rw[<-SR (xs:=tys),htys]
 subst hargs' htys';have fin:∀v1 v2,ev s=v1->ev x=v2->(∃v ρ' w',(Builtin.append_ #[t,t'] o.type #[v1,v2]).run C.P w=.ok v w'/\KY C F H ρ w n d H' v ρ' w') ->
   ∃v ρ' w',(execOp ev o).run C.P w=.ok (.value v) w'/\KY C F H ρ w n d H' v ρ' w':=by
  rintro v1 v2 h1 h2 ⟨v,ρ',w',h3,h4⟩;refine⟨v,ρ',w',?_,h4⟩;unfold execOp;simp only[ho,resolve,invoke,builtin,Sem.run_bind,Sem.run_pure,Result.andThen_ok,List.map_toArray,Cu,List.map_nil,h1,h2,h3]
 have hx:=hg x;have hsr:=hg s;generalize hvx:ev x=vx at hx;generalize hvs:ev s=vs at hsr;refine fin vs vx hvs hvx ?_;rw[hgx]at hx;cases hx;split at h<;>try(cases h;done)
 ·rename_i k0 g1 sz len hgs
  split at h<;>try(cases h;done)
  rename_i e1 he1;simp only[BM,Bh]at h;obtain⟨rfl,rfl,rfl⟩:=h;obtain⟨rfl,rfl,rfl,rfl,q1,rfl,rfl,hle,hby⟩:=hp;have T:=T0;obtain⟨hm,hke⟩:=Hp.get_mem he1;obtain⟨H1,H2,a1,_,a3⟩:=MB e1 he1;rw[hgs]at hsr;rw[a3];have S:=WO (w:=w) (ty:=o.type) T hu str;cases hsr with
  |onil=>
   obtain⟨m0,hO0⟩:=m.sub (H':=H1++H2) (by rw[a1];exact Pl (Pa _) (Pf _ _));have x0:BW ρ (AN F.X ρ H) w ρ (AN F.X ρ (H1++H2)) w:=⟨Af _,λ_ _ _ h=>h,λb' _ h=>⟨λh'=>h (hO0 b' h'),rfl⟩,λ_ cs _ _ h=>⟨cs,_,h,rfl⟩⟩
   obtain⟨v,ρ',w',r1,r2⟩:=append_nil (ty:=o.type) (k:=k) (news:=IL str) (f:=JS str) T m0 fr (λe' he'=>hlt e' (by rw[a1];rcases List.mem_append.1 he' with h|h<;>simp[h])) (by rw[JG];exact S) (Sz str) (by rw[JG];omega) (Af _);refine⟨v,ρ',w',r1,?_⟩;simp only[BV,NX,EZ];rw[JG]at r2;exact⟨r2.mem,x0.trans r2.ext,r2.far,r2.rep⟩
  |osl hr hb hc' hcs hmx=>
   rename_i cap b T' cs fz;rw[<-hke]at hr;obtain⟨cs0,q2,q3⟩:=m.at hm hr;rw[hb]at q2;cases q2;rw[a1]at m hlt;obtain⟨v,ρ',w',r1,r2⟩:=V5 (ty:=o.type) (k:=k) (news:=IL str) (f:=JS str) T m hr rfl q1 hle hb (by simpa using hcs) (by simpa using hmx) fr hlt (by rw[JG];exact S) (Sz str) (by rw[JG];omega) (Af _);rw[a1];refine⟨v,ρ',w',?_,?_⟩
   ·simpa using r1
   ·rw[JG]at r2;exact r2
 ·rename_i hgs
  simp only[BM,Bh]at h;obtain⟨rfl,rfl,rfl⟩:=h;obtain⟨rfl,rfl,rfl,hby⟩:=hp;have T:=T0;rw[hgs]at hsr;cases hsr;have S:=WO (w:=w) (ty:=o.type) T hu str;obtain⟨v,ρ',w',r1,r2⟩:=append_nil (ty:=o.type) (k:=k) (news:=IL str) (f:=JS str) T m fr hlt (by rw[JG];exact S) (Sz str) (by rw[JG];omega) (Af _);rw[JG]at r2;exact⟨v,ρ',w',r1,r2⟩
end
section
variable {C:BC} {F:Aa} {s:St} {ops:Array Oper} {o:Oper} {os:List Oper} {K:St->Prop}
theorem ml {tt:Nat->Option A0}{H:Hp}{n k:Nat}{g:Operand->D}{op:Op}{d:D}{H':Hp}{p:Prop}(h:NK tt H n k g op=some (d,H',p))(hl:∀e∈H,e.g<n):∀e∈H',e.g<n+1:=by
 unfold NK at h
 (repeat' split at h)<;>try(cases h;done)
 ·cases h
  intro e he;rcases BG.1 he with rfl|he
  ·exact HQ _
  ·exact DJ (hl e (Vh he))
 ·cases h
  intro e he;rcases BG.1 he with rfl|he
  ·exact HQ _
  ·exact DJ (hl e he)
theorem zU {tt:Nat->Option A0}(k:Nat)(htt:Cr C.P tt){d:D}{H':Hp}{p:Prop}(hw:CD ops s.env o=some true)(he:NK tt s.H s.n k (BI s.env) o.op=some (d,H',p))(hp:p)
  (h:BJ C F ops os ⟨Bb s.env o.dst d,H',s.n+1⟩ K):BJ C F ops (o::os) s K:=
 BJ.step hw (λρ a w hs=>by
  obtain⟨v,ρ',w',h1,h2⟩:=jH htt hs.mem (λk=>hs.fresh k _ (Af _)) (λe he=>Nat.ne_of_lt (hs.gen e he)) (DL hs.env) he hp;exact⟨v,ρ',w',.inl h1,⟨h2.mem,h2.ext,λk g hg=>by rw[h2.far k g (by omega)];exact hs.fresh k g (by omega),h2.rep⟩,ml he hs.gen⟩) h
end
inductive XI where
 |map (key elem:Nat) (zero:Value)
 |strs (n:Nat)
def N7 (P:Program):Nat->List Field->Bool
 |_,[]=>true
 |i,f::fs=>(f.name != "_")&&Nat.beq f.offset i&&(match P.underlying f.type with|some .string=>true|_=>false)&&N7 P (i+1) fs
def Lv (P:Program)(t:Nat):Option XI:=match P.underlying t with
 |some (.map k e)=>match P.underlying k with
  |some .string=>match P.info? e with
   |some i=>match i.zero with
    |some z=>match Kg z i.size with
     |true=>some (.map k e z)
     |false=>none
    |none=>none
   |none=>none
  |_=>none
 |some (.struct fs)=>match P.stoodInHeld t||P.eqGuardType P.depth t with
  |false=>match N7 P 0 fs.toList with
   |true=>some (.strs fs.size)
   |false=>none
  |true=>none
 |_=>none
def L4 (P:Program)(xt:Nat->Option XI):Prop:=∀t i,xt t=some i->Lv P t=some i
def Hq (s:ByteArray):List D->List D->Option (Option D)
 | [],[]=>some none
 | .prim (.string k)::ks,d::vs=>match BK s k with
  |true=>some (some d)
  |false=>Hq s ks vs
 |_,_=>none
def Gk:List D->List D->Option Bool
 | [],[]=>some true
 | .prim (.string a)::l,.prim (.string b)::l'=>match Gk l l' with
  |some r=>some (BK a b&&r)
  |none=>none
 |_,_=>none
def H8 (ok:Bool)(d:D)(b:Bool):D:=match ok with
 |true=>.tup [d,.prim (.bool b)]
 |false=>d
def dJ:TI->Bool
 | .other | .ptr=>false
 |_=>true
def F8 (tt:Nat->Option A0)(xt:Nat->Option XI)(g:Operand->D):Op->Option (D×Prop)
 | .makeInterface t x=>match tt t with
  |some i=>match dJ i.ti with
   |true=>some (.ifc t (g x),True)
   |false=>none
  |none=>none
 | .lookup t x ix ok=>match xt t with
  |some (.map _ _ z)=>match g x with
   | .mp ks vs=>match g ix with
    | .prim (.string s)=>match Hq s ks vs with
     |some (some d)=>some (H8 ok d true,True)
     |some none=>some (H8 ok (ofV z) false,True)
     |none=>none
    |_=>none
   |_=>none
  |_=>none
 | .binOp op t x y _=>match xt t with
  |some (.strs n)=>match g x with
   | .agg l=>match g y with
    | .agg l'=>match Gk l l' with
     |some b=>match NP op b with
      |some c=>some (.prim (.bool c),Nat.beq l.length n=true)
      |none=>none
     |none=>none
    |_=>none
   |_=>none
  |_=>none
 |_=>none
section
variable {P:Program} {ρ:Lk} {O:Nat->Prop} {w:World}
theorem TU (a b:ByteArray):(a==b)=BK a b:=beq_toListBytes a b
theorem Wy {s:ByteArray}:∀ {ks vs:List D} {es:List MapEntry} {r:Option D} (i:Nat),Hq s ks vs=some r->es.length=ks.length->es.length=vs.length ->
  (∀(j:Nat) (d:D),ks[j]?=some d->AV ρ O w d (es.getD j default).key)->(∀(j:Nat) (d:D),vs[j]?=some d->AV ρ O w d (es.getD j default).val) ->
  (match r with
   |none=>Instr.findNow .string (.string s) es i=some none
   |some d=>∃j v,Instr.findNow .string (.string s) es i=some (some (j,v))/\AV ρ O w d v)
 | [],[],[],r,i,h,_,_,_,_=>by simp only[Hq,BM]at h;subst h;rfl
 |k::ks,v::vs,e::es,r,i,h,h1,h2,hk,hv=>by
  obtain⟨kb,rfl⟩:∃a,k=.prim (.string a):=by
   unfold Hq at h;split at h<;>try(cases h;done)
   ·simp at*
   ·rename_i h1 _;cases h1;exact⟨_,rfl⟩
  simp only[Hq]at h;have h0:e.key=.string kb:=by
   have:=hk 0 _ rfl
   simp at this;generalize e.key=q at this;cases this;rfl
  have h3:Instr.findNow .string (.string s) (e::es) i=(match Instr.sameNow .string (.string s) e.key with
    |some true=>some (some (i,e.val))|some false=>Instr.findNow .string (.string s) es (i+1)|none=>none):=rfl
  rw[h0]at h3;have h4:Instr.sameNow .string (.string s) (.string kb)=some (BK s kb):=by
   show some (s==kb)=_;rw[TU]
  rw[h4]at h3;cases hb:BK s kb with
  |true=>
   rw[hb]at h h3;simp only[BM]at h;subst h;exact⟨i,e.val,h3,by simpa using hv 0 v rfl⟩
  |false=>
   rw[hb]at h h3;dsimp only at h h3;rw[h3];exact Wy (i+1) h (by simpa using h1) (by simpa using h2) (λj d hd=>by simpa using hk (j+1) d (by simpa using hd)) (λj d hd=>by simpa using hv (j+1) d (by simpa using hd))
 | [],_::_,_,_,_,h,_,_,_,_=>by simp[Hq]at h
 | [],[],_::_,_,_,_,h1,_,_,_=>by simp at h1
 |_::_,[],[],_,_,_,h1,_,_,_=>by simp at h1
 |_::_,[],_::_,_,_,_,_,h2,_,_=>by simp at h2
 |_::_,_::_,[],_,_,_,h1,_,_,_=>by simp at h1
theorem OB {t k e:Nat}{z:Value}(h:Lv P t=some (.map k e z)):P.underlying t=some (.map k e)/\P.underlying k=some .string/\(∃i,P.info? e=some i/\i.zero=some z) /\
  ∀(j:Nat) (x:Value),z.cells[j]?=some x->one x=true:=by
 unfold Lv at h;split at h<;>try(cases h;done)
 ·rename_i k' e' h1
  split at h<;>try(cases h;done)
  rename_i h2;split at h<;>try(cases h;done)
  rename_i i h3;split at h<;>try(cases h;done)
  rename_i z' h4;split at h<;>try(cases h;done)
  rename_i h5;cases h;exact⟨h1,h2,⟨i,h3,h4⟩,(Nw h5).2⟩
 ·(repeat' split at h)<;>cases h
theorem jJ {t n:Nat}(h:Lv P t=some (.strs n)):∃fs:Array Field,P.underlying t=some (.struct fs)/\P.stoodInHeld t=false/\P.eqGuardType P.depth t=false/\N7 P 0 fs.toList=true/\fs.size=n:=by
 unfold Lv at h;split at h<;>try(cases h;done)
 ·(repeat' split at h)<;>cases h
 ·rename_i fs h1
  split at h<;>try(cases h;done)
  rename_i h2;split at h<;>try(cases h;done)
  rename_i h3;cases h;simp only[JC]at h2;exact⟨fs,h1,h2.1,h2.2,h3,rfl⟩
theorem WY:∀ {l l':List D} {b:Bool},Gk l l'=some b->l.length=l'.length
 | [],[],_,_=>rfl
 | [],_::_,_,h=>by simp[Gk]at h
 |c::l,[],_,h=>by
  unfold Gk at h;split at h
  ·simp at*
  ·simp at*
  ·cases h
 |c::l,c'::l',b,h=>by
  unfold Gk at h;split at h
  ·simp at*
  ·rename_i h1 h2
   cases h1;cases h2;split at h
   ·rename_i hr;simp[WY hr]
   ·cases h
  ·cases h
theorem V3 (d:Nat){xs ys:Array Value}:∀(fs:List Field) (i:Nat) (l l':List D) (b:Bool),N7 P i fs=true->Gk l l'=some b->l.length=fs.length ->
  (∀(j:Nat) (c:D),l[j]?=some c->AV ρ O w c (xs.getD (i+j) undef))->(∀(j:Nat) (c:D),l'[j]?=some c->AV ρ O w c (ys.getD (i+j) undef)) ->
  (∀j,j<fs.length->i+j<xs.size/\i+j<ys.size)->(Op.eqFields (d+1) xs ys fs).run P w=.ok b w
 | [],i,[],l',b,_,h,_,_,_,_=>by
  cases l' with
  |nil=>simp only[Gk,BM]at h;subst h;rfl
  |cons=>simp[Gk]at h
 |f::fs,i,c::l,l',b,hf,h,hl,hx,hy,hin=>by
  cases l' with
  |nil=>simp[Gk]at h
  |cons c' l'=>
   obtain⟨a,rfl⟩:∃a,c=.prim (.string a):=by
    unfold Gk at h;split at h<;>try(cases h;done)
    ·simp at*
    ·rename_i h1 _;cases h1;exact⟨_,rfl⟩
   obtain⟨a',rfl⟩:∃a,c'=.prim (.string a):=by
    unfold Gk at h;split at h<;>try(cases h;done)
    ·simp at*
    ·rename_i _ h1;cases h1;exact⟨_,rfl⟩
   simp only[Gk]at h;cases hr:Gk l l' with
   |none=>simp[hr]at h
   |some r=>
    simp only[hr,BM]at h;simp only[N7,BR]at hf;obtain⟨⟨⟨f1,f2⟩,f3⟩,f4⟩:=hf;have f2:=B5 f2;have f3:P.underlying f.type=some .string:=by split at f3<;>first|assumption|cases f3
    have hxa:xs[i]?=some (.string a):=by
     have:=hx 0 _ rfl
     rw[DW]at this;have hlt:=(hin 0 (by simp)).1;rw[DW]at hlt;rw[A7,Bn hlt,Id]at this;rw[Bn hlt];generalize xs[i]=q at this;cases this;rfl
    have hya:ys[i]?=some (.string a'):=by
     have:=hy 0 _ rfl
     rw[DW]at this;have hlt:=(hin 0 (by simp)).2;rw[DW]at hlt;rw[A7,Bn hlt,Id]at this;rw[Bn hlt];generalize ys[i]=q at this;cases this;rfl
    have ag:(isAgg f.type).run P w=.ok false w:=by
     unfold isAgg;rw[run_bind,Cn f3];rfl
    have part1:(part f.type xs f.offset).run P w=.ok (.string a) w:=by
     unfold part;rw[run_bind,ag];dsimp only;rw[AF (by simp),f2];simp only[hxa];rfl
    have part2:(part f.type ys f.offset).run P w=.ok (.string a') w:=by
     unfold part;rw[run_bind,ag];dsimp only;rw[AF (by simp),f2];simp only[hya];rfl
    have hne:f.name ≠ "_":=by simpa using f1
    simp only[Op.eqFields];rw[AG hne,run_bind,part1];dsimp only;rw[run_bind,part2];dsimp only;rw[run_bind,run_equalIn_string w d f.type a a' f3];dsimp only;have ih:=V3 d fs (i+1) l l' r f4 hr (by simpa using hl) (λj c hc=>by have:=hx (j+1) c (by simpa using hc);rwa [show i+(j+1)=i+1+j from by omega]at this)
     (λj c hc=>by have:=hy (j+1) c (by simpa using hc);rwa [show i+(j+1)=i+1+j from by omega]at this) (λj hj=>by have:=hin (j+1) (by simp;omega);omega)
    subst h;cases hb:BK a a' with
    |true=>
     unfold BK at hb;rw[hb];simpa using ih
    |false=>
     unfold BK at hb;rw[hb];rfl
 | [],_,_::_,_,_,_,_,h,_,_,_=>by simp at h
 |_::_,_,[],_,_,_,_,h,_,_,_=>by simp at h
theorem lc {t:Nat}{i:A0}(h:EB P t=some i)(hc:dJ i.ti=true):∃u,P.underlying t=some u/\∀ms,u≠.interface ms:=by
 cases hk:i.ti with
 |int k=>exact⟨_,Xi h hk,by simp⟩
 |bool=>exact⟨_,Wn h hk,by simp⟩
 |string=>exact⟨_,K9 h hk,by simp⟩
 |struct fs=>obtain⟨a,h1,_⟩:=So h hk;exact⟨_,h1,by simp⟩
 |slice e a b c=>exact⟨_,(Eg h hk).1,by simp⟩
 |arr n e a=>obtain⟨a,h1,_⟩:=TX h hk;exact⟨_,h1,by simp⟩
 |ptr=>rw[hk]at hc;cases hc
 |other=>rw[hk]at hc;cases hc
theorem Z3 {tt:Nat->Option A0}{xt:Nat->Option XI}{o:Oper}{g:Operand->D}{ev:Operand->Value}{d:D}{p:Prop}(htt:Cr P tt)(hxt:L4 P xt)(hg:∀x,AV ρ O w (g x) (ev x))
  (h:F8 tt xt g o.op=some (d,p)) (hp:p):∃v,(execOp ev o).run P w=.ok (.value v) w/\AV ρ O w d v:=by
 unfold execOp;unfold F8 at h;split at h<;>try(cases h;done)
 ·rename_i t x ho
  simp only[ho];split at h<;>try(cases h;done)
  rename_i i hi;split at h<;>try(cases h;done)
  rename_i hc;cases h;obtain⟨u,h1,h2⟩:=lc (htt _ _ hi) hc;refine⟨.iface t (ev x),?_,.ifc (hg x)⟩;rw[run_bind]
  have:(Instr.makeInterface t (ev x)).run P w=.ok (.iface t (ev x)) w:=by
   unfold Instr.makeInterface;rw[run_bind,Cn h1];dsimp only;split
   ·rename_i ms;exact Ad rfl (h2 ms)
   ·rfl
  rw[this];rfl
 ·rename_i t x ix ok ho
  simp only[ho];split at h<;>try(cases h;done)
  rename_i k e z hi;split at h<;>try(cases h;done)
  rename_i ks vs hgx;split at h<;>try(cases h;done)
  rename_i s hgi;obtain⟨a1,a2,⟨inf,a3,a4⟩,a5⟩:=OB (hxt _ _ hi);have hx:=hg x;have hy:=hg ix;rw[hgx]at hx;rw[hgi]at hy;generalize ev x=vx at hx;generalize ev ix=vi at hy;cases hy;cases hx with
  |mp hO hr hb h1 h2 hB hk hv=>
   rename_i r clock es;have hc:(Instr.checkKey es.isEmpty 10000 k (.string s)).run P w=.ok () w:=MapKept.run_checkKey (k:=.string s) a2 (by simp[MapKept.IsKey]) _ 9999;have hz:(zeroValue e).run P w=.ok z w:=Pz a3 a4 w;have find:∀q,Hq s ks vs=some q->_:=λq hq=>Wy (ρ:=ρ) (O:=O) (w:=w) (es:=es.toList) 0 hq (by simpa using h1) (by simpa using h2) (λj d hd=>by simpa[A7]using hk j d hd) (λj d hd=>by simpa[A7]using hv j d hd)
   have okR:∀(d:D) (v:Value) (b:Bool),AV ρ O w d v->AV ρ O w (H8 ok d b) (if ok then .tuple #[v,.bool b]else v):=by
    intro d v b hr;cases ok with
    |false=>exact hr
    |true=>
     refine .tup rfl λi d' hd=>?_
     match i with
     | 0=>simp at hd;subst hd;exact hr
     | 1=>simp at hd;subst hd;exact .prim _
     |n+2=>simp at hd
   split at h<;>try(cases h;done)
   ·rename_i d' hq
    cases h;obtain⟨j,v,hf,hr'⟩:=find _ hq;refine⟨_,?_,okR _ v true hr'⟩;rw[run_bind]
    have:(Instr.lookup t (.map (some r)) (.string s) ok).run P w=.ok (if ok then .tuple #[v,.bool true]else v) w:=by
     simp[Instr.lookup,Cn a1,MapKept.run_getObj_map hb,hc,MapKept.run_findKey a2 hf,Result.andThen]
    rw[this];rfl
   ·rename_i hq
    cases h;have hf:=find _ hq;refine⟨_,?_,okR _ z false (.ofV λi x hx=>.inl (a5 i x hx))⟩;rw[run_bind]
    have:(Instr.lookup t (.map (some r)) (.string s) ok).run P w=.ok (if ok then .tuple #[z,.bool false]else z) w:=by
     simp[Instr.lookup,Cn a1,MapKept.run_getObj_map hb,hc,MapKept.run_findKey a2 hf,hz,Result.andThen]
    rw[this];rfl
 ·rename_i op t x y yt ho
  simp only[ho];split at h<;>try(cases h;done)
  rename_i n hi;split at h<;>try(cases h;done)
  rename_i l hgx;split at h<;>try(cases h;done)
  rename_i l' hgy;split at h<;>try(cases h;done)
  rename_i b hb;split at h<;>try(cases h;done)
  rename_i c hn;cases h;obtain⟨fs,a1,a2,a3,a4,a5⟩:=jJ (hxt _ _ hi);have hx:=hg x;have hy:=hg y;rw[hgx]at hx;rw[hgy]at hy;generalize ev x=vx at hx;generalize ev y=vy at hy;have hp:=B5 hp;have hl':=WY hb;cases hx with
  |agg n1 o1 r1=>
   cases hy with
   |agg n2 o2 r2=>
    rename_i xs ys;have eqf:P.fieldsOf t=fs:=by unfold Program.fieldsOf;rw[a1]
    have run:(Op.equalIn 10000 t (.agg xs) (.agg ys)).run P w=.ok b w:=by
     rw[show(10000:Nat)=9998+1+1 from rfl,run_equalIn_struct w _ t xs ys (by rw[eqf];exact a1) a2,eqf];exact V3 (ρ:=ρ) (O:=O) 9998 fs.toList 0 l l' b a4 hb (by simp;omega) (λj c hc=>by rw[BV];exact r1 j c hc) (λj c hc=>by rw[BV];exact r2 j c hc)
      (λj hj=>by simp at hj;omega)
    refine⟨.bool c,?_,.prim _⟩;have r3:(do eqGuard op t x y (.agg xs) (.agg ys);binOp op t (.agg xs) (.agg ys):Sem Value).run P w=.ok (.bool c) w:=by
     rw[run_bind,run_eqGuard_agg w op t x y xs ys a3];dsimp only;unfold NP at hn;cases op<;>simp only[BM,reduceCtorEq]at hn
     ·subst hn;rw[run_eql_struct,run];rfl
     ·subst hn;rw[run_neq_struct,run];rfl
    rw[run_bind,r3];rfl
end
def Ju (tt:Nat->Option A0)(n k:Nat)(g:Operand->D):Op->Option (D×Ay×Prop)
 | .makeSlice t l c=>match tt t with
  |some i=>match i.ti with
   | .slice e esz eby ez=>match g l with
    | .prim (.int _ a)=>match g c with
     | .prim (.int _ b)=>some (.osl k n esz 0 a.toNat,⟨k,n,e,esz,List.replicate a.toNat (ofV ez)⟩,0<=a/\a<=b/\(eby:Int)*b<=281474976710656/\b<=9223372036854775807)
     |_=>none
    |_=>none
   |_=>none
  |none=>none
 |_=>none
section
variable {C:BC} {F:Aa} {s:St} {ops:Array Oper} {o:Oper} {os:List Oper} {K:St->Prop} {ρ:Lk} {H:Hp} {w:World}
theorem YI {α:Type}{n i:Nat}{x d:α}(h:(List.replicate n x)[i]?=some d):i<n/\x=d:=by
 rw[List.getElem?_replicate]at h;split at h
 ·rename_i hi;exact⟨hi,F7 h⟩
 ·cases h
theorem oH {tt:Nat->Option A0}{g:Operand->D}{ev:Operand->Value}{n k:Nat}{d:D}{e':Ay}{p:Prop}(htt:Cr C.P tt)(m:Ap C F ρ H w)(fr:∀k,ρ k n=none)(hlt:∀e∈H,e.g≠n)
  (hg:∀x,AV ρ (AN F.X ρ H) w (g x) (ev x)) (h:Ju tt n k g o.op=some (d,e',p)) (hp:p):
  ∃v ρ' w',(execOp ev o).run C.P w=.ok (.value v) w'/\Iz C F H ρ w n d (some e') v ρ' w':=by
 unfold Ju at h;split at h<;>try(cases h;done)
 rename_i t l c ho;split at h<;>try(cases h;done)
 rename_i i hi;split at h<;>try(cases h;done)
 rename_i e esz eby ez hk;split at h<;>try(cases h;done)
 rename_i kl a hl;split at h<;>try(cases h;done)
 rename_i kc b hc;cases h;obtain⟨h0,hab,hby,hmx⟩:=hp;obtain⟨k1,⟨inf,k2,rfl,rfl,k5⟩,k6,k7⟩:=Eg (htt _ _ hi) hk;have h1:=hg l;have h2:=hg c;rw[hl]at h1;rw[hc]at h2;generalize hvl:ev l=vl at h1;generalize hvc:ev c=vc at h2;cases h1;cases h2;have run:=run_make (P:=C.P) w t e inf ez k1 k2 k5 kl kc a b h0 hab hby hmx;have hcell:∀q,q<b.toNat*inf.size->(madeCells ez.cells (b.toNat*inf.size)).getD q undef=ez.cells.getD (q%inf.size) undef/\q%inf.size<ez.cells.size:=λq hq=>by
  have hpos:0<inf.size:=by
   rcases Do inf.size with h|h
   ·rw[h]at hq;simp at hq
   ·exact h
  have hm:q%ez.cells.size<ez.cells.size:=B3 _ (by omega);rw[k6]at hm;refine⟨?_,by omega⟩;unfold madeCells;simp only[A7,Array.getElem?_map];rw[Bn (by simpa using hq)];simp only[Array.getElem_range,JE,Id];rw[k6,getElem!_pos ez.cells (q%inf.size) (by omega),Bn (by omega)];rfl
 have hec:(ofV ez).cells.length=inf.size/\∀(j:Nat) (c:D),(ofV ez).cells[j]?=some c->c=.prim (ez.cells.getD j undef):=by
  cases ez
  case tuple vs=>
   have:=k7 0 (.tuple vs) rfl
   simp[Ide.one]at this
  case agg vs=>
   refine⟨by simp only[ofV,D.cells,Ac,H4];exact k6,λj c hc=>?_⟩;simp only[ofV,D.cells,A8,JB,Option.map_eq_some_iff]at hc;obtain⟨x,hx,rfl⟩:=hc;show D.prim x=.prim (vs.getD j undef);rw[A7,hx];rfl
  all_goals
   refine⟨k6,λj c hc=>?_⟩
   match j with
   | 0=>simp only[ofV,D.cells,SX,BM]at hc;subst hc;rfl
   |j+1=>simp[ofV,D.cells]at hc
 have hle:a.toNat<=b.toNat:=by omega
 have ho':DF ρ (AN F.X ρ H) w ⟨k,n,e,inf.size,List.replicate a.toNat (ofV ez)⟩ (madeCells ez.cells (b.toNat*inf.size)):=by
  refine⟨by simp only[HT,size_madeCells];exact CL _ hle,λq d hd=>?_,λq v hv=>?_,λq d j c hd hcj=>?_⟩
  ·obtain⟨_,rfl⟩:=YI hd
   exact hec.1
  ·have hq:q<b.toNat*inf.size:=by have:=(Array.getElem?_eq_some_iff.1 hv).1;rw[size_madeCells]at this;exact this
   obtain⟨c1,c2⟩:=hcell q hq;rw[A7,hv,Id,A7,Bn c2,Id]at c1;rw[c1];exact k7 _ _ (Bn c2)
  ·obtain⟨hq,rfl⟩:=YI hd
   have hj:j<inf.size:=by rw[<-hec.1];exact(List.getElem?_eq_some_iff.1 hcj).1
   rw[hec.2 j c hcj];dsimp only;have hlt2:q*inf.size+j<b.toNat*inf.size:=by
    have:(q+1)*inf.size<=b.toNat*inf.size:=CL _ (by omega)
    rw[Bx]at this;omega
   rw[(hcell _ hlt2).1,BT,Nat.mul_add_mod,Di hj];exact .prim _
 obtain⟨m1,x1⟩:=m.alloc ⟨k,n,e,inf.size,List.replicate a.toNat (ofV ez)⟩ _ (fr k) (λe' he' h=>hlt e' he' h.2) ho';refine⟨.slice (some ⟨w.heap.size,0,none⟩) a.toNat b.toNat,ρ.put k n w.heap.size,_,?_,m1,x1,λk' g' hg=>by unfold Lk.put;rw[AF λh=>hg h.2],?_⟩
 ·unfold execOp
  simp only[ho,hvl,hvc];rw[run_bind,run];rfl
 ·exact PY (b:=w.heap.size) (T:=e) (fz:=(0,0)) (EN _ _ _ _) (by rw[EI];exact AG rfl) hle (by rw[size_madeCells]) (by simp only[maxLen];omega)
theorem o7 {tt:Nat->Option A0}{n k:Nat}{g:Operand->D}{op:Op}{d:D}{e:Ay}{p:Prop}(h:Ju tt n k g op=some (d,e,p)):e.g=n:=by
 unfold Ju at h
 (repeat' split at h)<;>first|(cases h;done)|(cases h;rfl)
theorem gG {tt:Nat->Option A0}(k:Nat)(htt:Cr C.P tt){d:D}{e':Ay}{p:Prop}(hw:CD ops s.env o=some true)(he:Ju tt s.n k (BI s.env) o.op=some (d,e',p))(hp:p)
  (h:BJ C F ops os ⟨Bb s.env o.dst d,e'::s.H,s.n+1⟩ K):BJ C F ops (o::os) s K:=
 BJ.step hw (λρ a w hs=>by
  obtain⟨v,ρ',w',h1,h2⟩:=oH htt hs.mem (λk=>hs.fresh k _ (Af _)) (λe he=>Nat.ne_of_lt (hs.gen e he)) (DL hs.env) he hp;refine⟨v,ρ',w',.inl h1,⟨h2.mem,h2.ext,λk g hg=>by rw[h2.far k g (by omega)];exact hs.fresh k g (by omega),h2.rep⟩,λe he2=>?_⟩;rcases BG.1 he2 with rfl|he2
  ·have:=o7 he;omega
  ·exact DJ (hs.gen e he2)) h
theorem BJ.l' {tt:Nat->Option A0}(k:Nat)(htt:Cr C.P tt){d:D}{ne:Option Ay}{p:Prop}(hw:CD ops s.env o=some true)(he:EO tt s.H s.n k (BI s.env) o.op=some (d,ne,p))(hp:p)
  (h:BJ C F ops os ⟨Bb s.env o.dst d,Cz ne s.H,s.n+1⟩ K):BJ C F ops (o::os) s K:=
 BJ.step hw (λρ a w hs=>by
  obtain⟨v,ρ',w',h1,h2⟩:=Z0 (λ_ h=>h) htt hs.mem (λk=>hs.fresh k _ (Af _)) (λe he=>Nat.ne_of_lt (hs.gen e he)) (DL hs.env) he hp;refine⟨v,ρ',w',.inl h1,⟨h2.mem,h2.ext,λk g hg=>by rw[h2.far k g (by omega)];exact hs.fresh k g (by omega),h2.rep⟩,λe he'=>?_⟩;cases ne with
  |none=>exact DJ (hs.gen e he')
  |some e'=>
   rcases BG.1 he' with rfl|he'
   ·have:=Yp he
    omega
   ·exact DJ (hs.gen e he')) h
theorem BJ.q {tt:Nat->Option A0}{xt:Nat->Option XI}(htt:Cr C.P tt)(hxt:L4 C.P xt){d:D}{p:Prop}(hw:CD ops s.env o=some true)(he:F8 tt xt (BI s.env) o.op=some (d,p))(hp:p)
  (h:BJ C F ops os ⟨Bb s.env o.dst d,s.H,s.n+1⟩ K):BJ C F ops (o::os) s K:=
 BJ.step hw (λρ a w hs=>by
  obtain⟨v,h1,h2⟩:=Z3 htt hxt (DL hs.env) he hp;exact⟨v,ρ,w,.inl h1,.pure hs h2,λe he=>DJ (hs.gen e he)⟩) h
theorem WL {f t:Nat}{name:String}{d0:D}{r:Operand}{args:Array Operand}{tys:Array Nat}{a:Act}(ho:o.op=.call ⟨.invoke r name,args,tys⟩)(hr:BI s.env r=.ifc t d0)
  (hm:∀v w,(method (C.P.types.size+Made.depth) t v name).run C.P w=.ok (f,v) w) (hcall:JJ C.P f) (hs:Bl C F ρ s a w):
  ∃vs,(execOp a.eval o).run C.P w=.ok (.enter f vs) w/\vs.size=(d0::args.toList.map (BI s.env)).length /\
   ∀(i:Nat) (d:D),(d0::args.toList.map (BI s.env))[i]?=some d->AV ρ (AN F.X ρ s.H) w d (vs.getD i undef):=by
 have hrr:=DL hs.env r;rw[hr]at hrr;generalize hv:a.eval r=v at hrr;cases hrr with
 |ifc h0=>
  rename_i v0;refine⟨#[v0]++args.map a.eval,?_,by simp;omega,λi d hd=>?_⟩
  ·unfold execOp
   simp only[ho];rw[run_bind]
   have:(resolve a.eval ⟨.invoke r name,args,tys⟩ o.type).run C.P w=.ok { target:=.fn (.method name) #[],args:=#[.iface t v0]++args.map a.eval } w:=by
    unfold resolve;simp only[hv];rfl
   rw[this];dsimp only;unfold invoke;have g0:(#[Value.iface t v0]++args.map a.eval)[0]?=some (.iface t v0):=by rw[Ga (by simp)];rfl
   have g1:(#[Value.iface t v0]++args.map a.eval).extract 1 (#[Value.iface t v0]++args.map a.eval).size=args.map a.eval:=by
    apply Array.ext_getElem?;intro q;rw[Array.getElem?_extract];simp only[I9,Jp,Bo,HN,Array.size_map];rw[GZ (by simp)];simp only[Jp,Bo,HN];split
    ·congr 1;omega
    ·rw[Pe (by simp;omega)]
   simp only[g0,g1];unfold callMethod;simp only[];rw[run_bind,QA];dsimp only;rw[run_bind,hm];dsimp only;exact Sr hcall _ w
  ·cases i with
   |zero=>
    simp at hd;subst hd
    have:(#[v0]++args.map a.eval).getD 0 undef=v0:=by rw[A7,Ga (by simp)];rfl
    rw[this];exact h0
   |succ i=>
    simp only[Jq,A8,JB,Option.map_eq_some_iff]at hd;obtain⟨x,hx,rfl⟩:=hd
    have:(#[v0]++args.map a.eval).getD (i+1) undef=a.eval x:=by
     simp only[A7];rw[GZ (by simp)];simp[hx]
    rw[this];exact DL hs.env x
theorem zX {f t:Nat}{name:String}{d0:D}{ds:List D}{r:Operand}{args:Array Operand}{tys:Array Nat}{Φ:D->Hp->Nat->Prop}(hw:CD ops s.env o=some true)(ho:o.op=.call ⟨.invoke r name,args,tys⟩)(hr:BI s.env r=.ifc t d0)
  (hm:∀v w,(method (C.P.types.size+Made.depth) t v name).run C.P w=.ok (f,v) w) (hds:d0::args.toList.map (BI s.env)=ds) (hc:Cd C f ds s.H s.n Φ)
  (h:∀d H' n',Φ d H' n'->BJ C F ops os ⟨Bb s.env o.dst d,H',n'⟩ K):BJ C F ops (o::os) s K:=by
 intro hd l hl ρ a w hs;cases l with
 |nil=>simp at hl
 |cons i l=>
  simp only[Cu,FB]at hl;simp only[Fl,BR]at hd;obtain⟨vs,h1,h2,h3⟩:=WL ho hr hm hc.1 hs;rw[hds]at h2 h3;simp only[wpOps,hl.1];rw[AG (LX hs.env hw)];refine .inl ?_;unfold Oper.wp;rw[h1];refine(hc.2 F ρ w vs hs.mem hs.fresh hs.gen h2 h3).mono ?_;rintro e w' ⟨v,d,H',n',ρ',rfl,hΦ,m,x,fr,g,r⟩;exact h d H' n' hΦ hd.2 l hl.2 ρ' (a.put o.dst v) w' (hs.put m x fr g r hd.1)
structure qj (es:Array MapEntry)(clock:Nat)(ks vs:List D):Prop where
 hB:JQ es clock
 h1:es.size=ks.length
 h2:es.size=vs.length
 hk:∀(i:Nat) (d:D),ks[i]?=some d->∀ρ O w,AV ρ O w d (es.getD i default).key
 hv:∀(i:Nat) (d:D),vs[i]?=some d->∀ρ O w,AV ρ O w d (es.getD i default).val
theorem JQ.push {es:Array MapEntry}{clock:Nat}(h:JQ es clock)(k v:Value):JQ (es.push { key:=k,val:=v,born:=clock }) (clock+1):=by
 refine⟨λi e he=>?_,λi j e e' he he' hb=>?_⟩
 ·rw[Pk]at he
  split at he
  ·cases he;exact HQ _
  ·exact DJ (h.1 i e he)
 ·rw[Pk]at he he'
  split at he<;>split at he'
  ·omega
  ·cases he
   have:=h.1 j e' he'
   simp only at hb;omega
  ·cases he'
   have:=h.1 i e he
   simp only at hb;omega
  ·exact h.2 i j e e' he he' hb
def Vz (C:BC)(F:Aa)(ops:Array Oper)(os:List Oper)(m:Nat)(ks vs:List D)(s:St)(K:St->Prop):Prop:=
 os.all (Dk F.nt)=true->∀(l:List Nat),l.map (ops[·]?)=os.map some->∀ρ a w es clock,Bl C F ρ s a w->a.tmps.getD m undef=.map (some w.heap.size)->m<a.tmps.size->qj es clock ks vs ->
  wpOps C.P ops (K7 C F K) l a (w.alloc (.map es clock))
theorem Vz.done {m:Nat}{ks vs:List D}(h:BJ C F ops os ⟨Bb s.env (some m) (.mp ks vs),s.H,s.n⟩ K):Vz C F ops os m ks vs s K:=by
 intro hds l hl ρ a w es clock hs hm hlt hr;have hO:¬AN F.X ρ s.H w.heap.size:=λh'=>Ad (hs.mem.own_lt h') (Nat.lt_irrefl _)
 have x:=BW.allocPure (ρ:=ρ) (F:=F) (H:=s.H) (w:=w) (.map es clock);refine h hds l hl ρ a _ ⟨hs.mem.allocPure _,hs.fresh,hs.gen,λt=>?_,hs.nt,hs.dfr⟩;show AV _ _ _ (Ar.get ((m,.mp ks vs)::s.env) t) _;rw[IY]
 by_cases ht:m=t
 ·subst ht
  rw[AG rfl,hm];exact .mp hO (by simp) (by rw[EI,AG rfl]) hr.h1 hr.h2 hr.hB (λi d hd=>hr.hk i d hd _ _ _) (λi d hd=>hr.hv i d hd _ _ _)
 ·rw[AF ht];exact(hs.env t).mono x
def KP (C:BC)(f:Nat)(ds:List D)(d:D):Prop:=∀(ρ:Lk) (O:Nat->Prop) (w:World) (vs:Array Value),vs.size=ds.length->(∀(i:Nat) (x:D),ds[i]?=some x->AV ρ O w x (vs.getD i undef)) ->
 ∃v,(callFunc f vs).run C.P w=.ok (.value v) w/\AV ρ O w d v
theorem WP {f:Nat}{g:Operand->D}{O:Nat->Prop}{first captured:List D}{fop:Operand}{args:Array Operand}{tys:Array Nat}{ρ:Lk}{a:Act}{w:World}(ho:o.op=.call ⟨.value fop,args,tys⟩)
  (hf:g fop=.clo (.func f) first captured) (hg:∀x,AV ρ O w (g x) (a.eval x)):
  ∃vs,(execOp a.eval o).run C.P w=(callFunc f vs).run C.P w/\vs.size=(first++args.toList.map g++captured).length /\
   ∀(i:Nat) (d:D),(first++args.toList.map g++captured)[i]?=some d->AV ρ O w d (vs.getD i undef):=by
 have hfr:=hg fop;rw[hf]at hfr;generalize hv:a.eval fop=v at hfr;cases hfr with
 |clo hn hc h1 h2=>
  rename_i fs cs;refine⟨fs++args.map a.eval++cs,?_,by simp[hn,hc],λi d hd=>?_⟩
  ·unfold execOp
   simp only[ho];rw[run_bind]
   have:(resolve a.eval ⟨.value fop,args,tys⟩ o.type).run C.P w=.ok { target:=.fn (.func f) cs,args:=fs++args.map a.eval } w:=by
    unfold resolve;simp only[hv];rfl
   rw[this];dsimp only;unfold invoke;rfl
  ·rw[De]at hd
   rcases BH i first.length with hi|hi
   ·rw[Fj hi]at hd
    have:(fs++args.map a.eval++cs).getD i undef=fs.getD i undef:=by
     simp only[A7];rw[ME,Ga (by omega)]
    rw[this];exact h1 i d hd
   ·rw[En hi]at hd
    rcases BH (i-first.length) args.size with hj|hj
    ·rw[Fj (by simpa using hj)]at hd
     simp at hd;obtain⟨x,hx,rfl⟩:=hd
     have:(fs++args.map a.eval++cs).getD i undef=a.eval x:=by
      simp only[A7];rw[ME,GZ (by omega),Ga (by simp;omega),hn];simp[hx]
     rw[this];exact hg x
    ·rw[En (by simpa using hj)]at hd
     have:(fs++args.map a.eval++cs).getD i undef=cs.getD (i-first.length-args.size) undef:=by
      simp only[A7];rw[ME,GZ (by omega),GZ (by simp;omega),hn];simp
     rw[this];exact h2 _ d (by simpa using hd)
theorem BJ.nat {f:Nat}{first captured ds:List D}{fop:Operand}{args:Array Operand}{tys:Array Nat}{d:D}(hw:CD ops s.env o=some true)(ho:o.op=.call ⟨.value fop,args,tys⟩)
  (hf:BI s.env fop=.clo (.func f) first captured) (hds:first++args.toList.map (BI s.env)++captured=ds) (hc:KP C f ds d)
  (h:BJ C F ops os ⟨Bb s.env o.dst d,s.H,s.n+1⟩ K):BJ C F ops (o::os) s K:=
 BJ.step hw (λρ a w hs=>by
  obtain⟨vs,h1,h2,h3⟩:=WP (C:=C) (a:=a) ho hf (DL hs.env);rw[hds]at h2 h3;obtain⟨v,h4,h5⟩:=hc _ _ _ vs h2 h3;exact⟨v,ρ,w,.inl (h1.trans h4),.pure hs h5,λe he=>DJ (hs.gen e he)⟩) h
theorem CP.nat {H:Hp}{g f:Nat}{env:Ar}{first captured ds:List D}{fop:Operand}{args:Array Operand}{tys:Array Nat}{d:D}(hw:CD ops env o=some true)(ho:o.op=.call ⟨.value fop,args,tys⟩)
  (hf:BI env fop=.clo (.func f) first captured) (hds:first++args.toList.map (BI env)++captured=ds) (hc:KP C f ds d):CP C F ops H g env o d none:=by
 refine⟨by simp,λHe ρ a w m hsub fr hne hr=>.inr ⟨IB hr hw,.inl ?_⟩⟩;obtain⟨g',h1,h2⟩:=Iq hr;have hfop:fop∈o.op.operands:=by rw[ho];simp[Op.operands,Call.operands]
 have harg:∀x∈args.toList,BI env x=g' x:=λx hx=>h1 x (by rw[ho];simp[Op.operands,Call.operands];right;simpa using hx)
 rw[h1 fop hfop]at hf;rw[ML harg]at hds;obtain⟨vs,q1,q2,q3⟩:=WP (C:=C) (g:=g') ho hf h2;rw[hds]at q2 q3;obtain⟨v,h4,h5⟩:=hc _ _ _ vs q2 q3;exact⟨v,ρ,w,q1.trans h4,m,.refl _ _ _,λ_ _ _=>rfl,h5⟩
end
def dm (op:BinOp)(k k':IntKind)(b:Int):Bool:=match op with
 | .quo | .rem=>decide (k=k') && !(decide (b=0))
 | .shl | .shr=>decide (0<=b)
 |_=>decide (k=k')
def Se (op:BinOp)(x y:Value):Bool:=match x,y with
 | .int k _,.int k' b=>dm op k k' b
 | .string a,.string b=>match op with
  | .add=>Nat.ble (a.size+b.size) 9223372036854775807
  |_=>true
 |_,_=>true
theorem bO {op:BinOp}{x y v:Value}{p:Prop}(h:NH op x y=some (v,p))(hk:Se op x y=true):p:=by
 unfold NH at h;unfold Se at hk;split at h
 ·dsimp only at hk
  unfold dm at hk;cases op<;>simp only[BM,Bh]at h<;>obtain⟨_,rfl⟩:=h<;>simpa using hk
 ·cases op<;>simp only[BM,Bh,reduceCtorEq]at h<;>obtain⟨_,rfl⟩:=h<;>first|trivial|(dsimp only at hk;exact Bi hk)
 ·cases h
def Vs (ti:TI)(x y:D):Bool:=match ti,x,y with
 | .slice ..,.sl false _ es,.prim (.slice none _ _)=>!es.isEmpty
 |_,_,_=>true
theorem ue {ti:TI}{x y:D}{b:Bool}{p:Prop}(h:MF ti x y=some (b,p))(hk:Vs ti x y=true):p:=by
 unfold MF at h;split at h<;>try(cases h;done)
 all_goals(simp only[BM,Bh]at h;obtain⟨_,rfl⟩:=h)
 all_goals first
  |trivial
  |(simp only[Vs]at hk;intro he;subst he;simp at hk)
def VD (tt:Nat->Option A0)(op:BinOp)(t:Nat)(x y:D):Bool:=match x,y with
 | .prim (.int k a),.prim (.int k' b)=>Se op (.int k a) (.int k' b)
 | .prim (.string a),.prim (.string b)=>Se op (.string a) (.string b)
 |x,y=>match tt t with
  |some i=>Vs i.ti x y
  |none=>true
theorem mR {tt:Nat->Option A0}{op:BinOp}{t:Nat}{x y d:D}{p:Prop}(h:PJ tt op t x y=some (d,p))(hk:VD tt op t x y=true):p:=by
 unfold PJ at h;unfold VD at hk;split at h
 ·dsimp only at hk
  split at h<;>try(cases h;done)
  rename_i hb;cases h;exact bO hb hk
 ·dsimp only at hk
  split at h<;>try(cases h;done)
  rename_i hb;cases h;exact bO hb hk
 ·rename_i h1 h2
  split at hk
  ·exact Ad rfl (h1 _ _ _ _ rfl)
  ·exact Ad rfl (h2 _ _ rfl)
  ·split at h<;>try(cases h;done)
   rename_i i hi;split at h<;>try(cases h;done)
   rename_i b q hb;split at h<;>try(cases h;done)
   cases h;rw[hi]at hk;exact ue hb hk
def M8 (ag:Bool)(sz:Nat)(d:D):Bool:=match ag with
 |true=>match d with
  | .agg ds=>Nat.beq ds.length sz
  |_=>false
 |false=>Nat.beq sz 1&&d.one
theorem OL {ag:Bool}{sz:Nat}{d:D}(h:M8 ag sz d=true):Bu ag sz d:=by
 unfold M8 at h;split at h
 ·split at h
  ·rw[<-B5 h];exact Bu.agg
  ·cases h
 ·simp only[BR]at h
  rw[B5 h.1];exact CW h.2
def RL (fs:List (Nat×Nat×Bool))(g:Operand->D):List (Nat×Operand)->List D->Bool
 | [],_=>true
 |(i,x)::r,cs=>match fs[i]? with
  |some (o,sz,ag)=>M8 ag sz (g x)&&Nat.ble (o+sz) cs.length&&RL fs g r (E3 cs o (Ep ag (g x)))
  |none=>true
theorem XL {fs:List (Nat×Nat×Bool)}{g:Operand->D}:∀ {ps:List (Nat×Operand)} {cs cs':List D} {p:Prop},HC fs g ps cs=some (cs',p)->RL fs g ps cs=true->p
 | [],cs,cs',p,h,_=>by simp only[HC,BM,Bh]at h;obtain⟨_,rfl⟩:=h;trivial
 |(i,x)::r,cs,cs',p,h,hk=>by
  simp only[HC]at h;simp only[RL]at hk;cases hf:fs[i]? with
  |none=>simp[hf]at h
  |some q=>
   obtain⟨o,sz,ag⟩:=q;simp only[hf]at h hk;cases hr:HC fs g r (E3 cs o (Ep ag (g x)))with
   |none=>simp[hr]at h
   |some q=>
    obtain⟨c2,p2⟩:=q;simp only[hr,BM,Bh]at h;obtain⟨_,rfl⟩:=h;simp only[BR]at hk;exact⟨⟨OL hk.1.1,Bi hk.1.2⟩,XL hr hk.2⟩
def PR (n:Nat):D->Bool
 | .prim (.int _ x)=>decide (0<=x)&&decide (x<=n)
 |_=>true
theorem Q6 {n m:Nat}{d:D}{p:Prop}(h:Ke n d=some (m,p))(hk:PR n d=true):p:=by
 unfold Ke at h;split at h
 ·simp only[BM,Bh]at h;obtain⟨_,rfl⟩:=h
  simpa[PR]using hk
 ·cases h
def PC (n:Nat)(lo hi:Option D):Bool:=match hi with
 |none=>match lo with
  |none=>true
  |some l=>PR n l
 |some h=>PR n h&&(match Ke n h with
  |some (m,_)=>match lo with
   |none=>true
   |some l=>PR m l
  |none=>true)
theorem To {n a b:Nat}{lo hi:Option D}{p:Prop}(h:IK n lo hi=some (a,b,p))(hk:PC n lo hi=true):p:=by
 unfold IK at h;unfold PC at hk;cases hi with
 |none=>
  cases lo with
  |none=>simp only[BM,Bh]at h;obtain⟨_,_,rfl⟩:=h;trivial
  |some l=>
   dsimp only at h hk;split at h<;>try(cases h;done)
   rename_i hb;cases h;exact Q6 hb hk
 |some hh=>
  dsimp only at h hk;simp only[BR]at hk;split at h<;>try(cases h;done)
  rename_i m q hb;rw[hb]at hk;cases lo with
  |none=>cases h;exact Q6 hb hk.1
  |some l=>
   dsimp only at h hk;split at h<;>try(cases h;done)
   rename_i hb2;cases h;exact⟨Q6 hb hk.1,Q6 hb2 hk.2⟩
def UG (tt:Nat->Option A0)(t:Nat)(x:D)(lo hi:Option D):Bool:=match tt t with
 |some i=>match i.ti,x with
  | .string,.prim (.string s)=>PC s.size lo hi
  | .slice _ esz _ _,.sl _ sz es=>PC es.length lo hi&&Nat.beq esz sz
  | .slice _ esz _ _,.osl _ _ sz _ len=>PC len lo hi&&Nat.beq esz sz&&(match IK len lo hi with
   |some (l,h,_)=>Nat.blt l h||Nat.beq l 0
   |none=>true)
  |_,_=>true
 |none=>true
theorem jQ {tt:Nat->Option A0}{t:Nat}{x d:D}{lo hi:Option D}{p:Prop}(h:Ot tt t x lo hi=some (d,p))(hk:UG tt t x lo hi=true):p:=by
 unfold Ot at h;unfold UG at hk;cases hi':tt t with
 |none=>simp[hi']at h
 |some i=>
  simp only[hi']at h hk;split at h<;>try(cases h;done)
  ·rename_i hti
   simp only[hti]at hk;split at h<;>try(cases h;done)
   rename_i hb;cases h;exact To hb hk
  ·rename_i hti
   simp only[hti,BR]at hk;split at h<;>try(cases h;done)
   rename_i hb;cases h;exact⟨To hb hk.1,B5 hk.2⟩
  ·rename_i hti
   simp only[hti,BR]at hk;split at h<;>try(cases h;done)
   rename_i l hh q hb;cases h;simp only[hb]at hk;refine⟨To hb hk.1.1,B5 hk.1.2,?_⟩
   have:=hk.2
   simp only[Jr]at this;exact this.imp Nat.blt_eq.mp B5
theorem Xb {k:IntKind}:∀ {r:List D} {a:Int} {d:D} {p:Prop},KK k a r=some (d,p)->p
 | [],a,d,p,h=>by simp only[KK,BM,Bh]at h;obtain⟨_,rfl⟩:=h;trivial
 |x::r,a,d,p,h=>by
  unfold KK at h;split at h
  ·rename_i h1;cases h1
  ·rename_i h1;cases h1;exact Xb h
  ·cases h
theorem Xa {k:IntKind}:∀ {r:List D} {a:Int} {d:D} {p:Prop},KJ k a r=some (d,p)->p
 | [],a,d,p,h=>by simp only[KJ,BM,Bh]at h;obtain⟨_,rfl⟩:=h;trivial
 |x::r,a,d,p,h=>by
  unfold KJ at h;split at h
  ·rename_i h1;cases h1
  ·rename_i h1;cases h1;exact Xa h
  ·cases h
theorem i8 {tt:Nat->Option A0}{b:Builtin}{tys:List Nat}{args:List D}{d:D}{p:Prop}(h:OH tt b tys args=some (d,p)):p:=by
 unfold OH at h
 (repeat' split at h)<;>first|(cases h;done)|(cases h;trivial)|exact Xb h|exact Xa h
def MH (tt:Nat->Option A0)(g:Operand->D):Op->Bool
 | .pick c a b=>match g c with
  | .prim (.bool true)=>(HI (g a)).2
  | .prim (.bool false)=>(HI (g b)).2
  |_=>true
 | .build t ps=>match tt t with
  |some i=>match Q7 i.ti with
   |some fs=>RL fs g ps.toList (i.zero.cells.toList.map .prim)
   |none=>true
  |none=>true
 | .binOp op t x y _=>VD tt op t (g x) (g y)
 | .slice t x lo hi none=>UG tt t (g x) (lo.map g) (hi.map g)
 | .indexAddr t x ix=>match tt t with
  |some i=>match i.ti,g ix with
   | .arr n _ _,.prim (.int _ j)=>decide (0<=j)&&decide (j<n)
   | .slice _ esz _ _,.prim (.int _ j)=>match g x with
    | .osl _ _ sz _ len=>decide (0<=j)&&decide (j<len)&&Nat.beq esz sz
    |_=>true
   |_,_=>true
  |none=>true
 | .index t x ix=>match tt t with
  |some i=>match i.ti,g x,g ix with
   | .string,.prim (.string s),.prim (.int _ j)=>decide (0<=j)&&decide (j<s.size)
   |_,_,_=>true
  |none=>true
 |_=>true
theorem bK {tt:Nat->Option A0}{g:Operand->D}{op:Op}{d:D}{p:Prop}(h:Gf tt g op=some (d,p))(hk:MH tt g op=true):p:=by
 unfold Gf at h;split at h<;>try(cases h;done)
 ·cases h;trivial
 ·cases h;trivial
 ·rename_i c a b
  simp only[MH]at hk;split at h<;>try(cases h;done)
  rename_i t hc;rw[hc]at hk;cases h;cases t
  ·exact⟨λh=>(by cases h),λ_=>hk⟩
  ·exact⟨λ_=>hk,λh=>(by cases h)⟩
 ·rename_i t ps
  simp only[MH]at hk;unfold On at h;split at h<;>try(cases h;done)
  rename_i i hi;simp only[hi]at hk;split at h<;>try(cases h;done)
  rename_i fs hf;simp only[hf]at hk;split at h<;>try(cases h;done)
  rename_i hfl;cases h;exact XL hfl hk
 ·split at h<;>first|(cases h;done)|(cases h;trivial)
 ·exact mR h hk
 ·split at h<;>first|(cases h;done)|(cases h;trivial)
 ·split at h<;>try(cases h;done)
  split at h<;>first|(cases h;done)|(cases h;trivial)
 ·cases h;trivial
 ·exact jQ h hk
 ·(repeat' split at h)<;>first|(cases h;done)|(cases h;trivial)
 ·(repeat' split at h)<;>first|(cases h;done)|(cases h;trivial)
 ·rename_i t x ix
  simp only[MH]at hk;split at h<;>try(cases h;done)
  rename_i i hi;simp only[hi]at hk;split at h<;>try(cases h;done)
  ·rename_i h1 h2
   simp only[h1,h2]at hk;split at h<;>try(cases h;done)
   cases h;simpa using hk
  ·rename_i h1 h2
   simp only[h1,h2]at hk;split at h<;>try(cases h;done)
   rename_i h3;cases h;simp only[h3,BR,Gc]at hk;exact⟨hk.1.1,hk.1.2,B5 hk.2⟩
 ·rename_i t x ix
  simp only[MH]at hk;split at h<;>try(cases h;done)
  rename_i i hi;simp only[hi]at hk;split at h<;>try(cases h;done)
  rename_i h1 h2 h3;simp only[h1,h2,h3]at hk;cases h;simpa using hk
 ·(repeat' split at h)<;>first|(cases h;done)|(cases h;trivial)
 ·exact i8 h
def NC (ag:Bool)(sz:Nat):List D->Bool
 | []=>true
 |d::l=>M8 ag sz d&&NC ag sz l
theorem X9 {ag:Bool}{sz:Nat}:∀ {l:List D},NC ag sz l=true->RT ag sz l
 | [],_=>trivial
 | [d],h=>by simp only[NC,BR]at h;exact OL h.1
 |d::d'::l,h=>by simp only[NC,BR]at h;exact⟨OL h.1,X9 (by simp only[NC,BR];exact h.2)⟩
def Jy (tt:Nat->Option A0)(H:Hp)(g:Operand->D):Op->Bool
 | .load t x=>match tt t with
  |some i=>match g x with
   | .optr k gg sz j off=>match Hp.get H k with
    |some e=>match e.es[j]? with
     |some d=>Nat.beq gg e.g&&Nat.beq sz e.sz&&(bif i.ag then Nat.ble (off+i.sz) d.cells.length else true)
     |none=>true
    |none=>true
   | .pptr d=>match i.ag with
    |true=>match d with
     | .agg ds=>Nat.beq ds.length i.sz
     |_=>true
    |false=>JV d
   |_=>true
  |none=>true
 | .box t x=>match tt t with
  |some i=>M8 i.ag i.sz (g x)
  |none=>true
 | .buildSlice t len ps=>match tt t with
  |some i=>match i.ti with
   | .slice e esz _ _=>match len with
    | 0=>true
    |len+1=>match tt e with
     |some ie=>match It g 0 ps.toList with
      |some es=>NC ie.ag esz es&&Nat.beq es.length (len+1)&&Nat.ble ((len+1)*esz) 16777216&&Nat.ble 1 esz
      |none=>true
     |none=>true
   |_=>true
  |none=>true
 |_=>true
theorem Ur {tt:Nat->Option A0}{H:Hp}{n k:Nat}{g:Operand->D}{op:Op}{d:D}{ne:Option Ay}{p:Prop}(h:EO tt H n k g op=some (d,ne,p))(hk:Jy tt H g op=true):p:=by
 unfold EO at h;split at h<;>try(cases h;done)
 ·simp only[Jy]at hk
  split at h<;>try(cases h;done)
  rename_i i hi;simp only[hi]at hk;split at h<;>try(cases h;done)
  ·rename_i h1
   simp only[h1]at hk;split at h<;>try(cases h;done)
   rename_i e he;simp only[he]at hk;split at h<;>try(cases h;done)
   rename_i d1 hd;simp only[hd]at hk;split at h<;>try(cases h;done)
   cases h;simp only[BR]at hk;exact⟨B5 hk.1.1,B5 hk.1.2,hk.2⟩
  ·rename_i h1
   simp only[h1]at hk;split at h
   ·rename_i ha
    simp only[ha]at hk;split at h<;>try(cases h;done)
    cases h;exact hk
   ·rename_i ha
    simp only[ha]at hk;cases h;exact hk
 ·split at h<;>first|(cases h;done)|(cases h;trivial)
 ·simp only[Jy]at hk
  split at h<;>try(cases h;done)
  rename_i i hi;simp only[hi]at hk;cases h;exact OL hk
 ·simp only[Jy]at hk
  split at h<;>try(cases h;done)
  rename_i i hi;simp only[hi]at hk;split at h<;>try(cases h;done)
  rename_i h1;simp only[h1]at hk;split at h
  ·split at h<;>first|(cases h;done)|(cases h;trivial)
  ·dsimp only at hk
   split at h<;>try(cases h;done)
   rename_i h2;simp only[h2]at hk;split at h<;>try(cases h;done)
   rename_i h3;simp only[h3,BR]at hk;cases h;exact⟨X9 hk.1.1.1,B5 hk.1.1.2,hk.1.2,hk.2⟩
def Sd (tt:Nat->Option A0)(H:Hp)(g:Operand->D):Op->Bool
 | .store t x y=>match tt t with
  |some i=>match g x with
   | .optr k gg sz _ off=>match Hp.get H k with
    |some e=>M8 i.ag i.sz (g y)&&Nat.beq gg e.g&&Nat.beq sz e.sz&&Nat.ble (off+i.sz) e.sz
    |none=>true
   |_=>true
  |none=>true
 |_=>true
theorem bN {tt:Nat->Option A0}{H:Hp}{g:Operand->D}{op:Op}{k:Nat}{e':Ay}{p:Prop}(h:FD tt H g op=some (k,e',p))(hk:Sd tt H g op=true):p:=by
 unfold FD at h;split at h<;>try(cases h;done)
 simp only[Sd]at hk;split at h<;>try(cases h;done)
 rename_i i hi;simp only[hi]at hk;split at h<;>try(cases h;done)
 rename_i h1;simp only[h1]at hk;split at h<;>try(cases h;done)
 rename_i h2;simp only[h2,BR]at hk;split at h<;>try(cases h;done)
 cases h;exact⟨OL hk.1.1.1,B5 hk.1.1.2,B5 hk.1.2,hk.2⟩
def VE (H:Hp)(esz:Nat):D->Bool
 | .sl _ sz _=>Nat.beq sz esz
 | .osl k g sz i len=>match Hp.get H k with
  |some e=>Nat.beq g e.g&&Nat.beq sz e.sz&&Nat.beq sz esz&&Nat.ble (i+len) e.es.length
  |none=>true
 |_=>true
theorem YA {H:Hp}{esz:Nat}{d:D}{es:List D}{p:Prop}(h:Hy H esz d=some (es,p))(hk:VE H esz d=true):p:=by
 unfold Hy at h;split at h<;>try(cases h;done)
 ·cases h;exact B5 hk
 ·simp only[VE]at hk
  split at h<;>try(cases h;done)
  rename_i h1;simp only[h1,BR]at hk;cases h;exact⟨B5 hk.1.1.1,B5 hk.1.1.2,B5 hk.1.2,Bi hk.2⟩
 ·cases h;trivial
def Pp (tt:Nat->Option A0)(H:Hp)(g:Operand->D):Op->Bool
 | .call ⟨.builtin .append,args,tys⟩=>match args.toList with
  | [s,x]=>match tys.toList with
   | [t,_]=>match tt t with
    |some i=>match i.ti with
     | .slice e esz eby _=>VE H esz (g x)&&Nat.ble 1 eby&&Nat.ble 1 esz&&(match Hy H esz (g x)with
      |some (news,_)=>match g s with
       | .osl k1 g1 sz _ len=>match Hp.get H k1 with
        |some e1=>Nat.beq g1 e1.g&&Nat.beq sz e1.sz&&Nat.beq sz esz&&Nat.beq e1.T e&&Nat.ble len e1.es.length&&Nat.ble ((len+news.length)*eby) 140737488355328
        |none=>true
       |_=>Nat.ble (news.length*eby) 140737488355328
      |none=>true)
     |_=>true
    |none=>true
   |_=>true
  |_=>true
 |_=>true
theorem Uq {tt:Nat->Option A0}{H:Hp}{n k:Nat}{g:Operand->D}{op:Op}{d:D}{H':Hp}{p:Prop}(h:EG tt H n k g op=some (d,H',p))(hk:Pp tt H g op=true):p:=by
 unfold EG at h;split at h<;>try(cases h;done)
 simp only[Pp]at hk;split at h<;>try(cases h;done)
 rename_i h1;simp only[h1]at hk;split at h<;>try(cases h;done)
 rename_i h2;simp only[h2]at hk;split at h<;>try(cases h;done)
 split at h<;>try(cases h;done)
 rename_i h3;simp only[h3]at hk;split at h<;>try(cases h;done)
 rename_i h4;simp only[h4]at hk;split at h<;>try(cases h;done)
 rename_i h5;simp only[h5,BR]at hk;obtain⟨⟨⟨k1,k2⟩,k3⟩,k4⟩:=hk;split at h<;>try(cases h;done)
 ·rename_i h6
  simp only[h6]at k4;split at h<;>try(cases h;done)
  rename_i h7;simp only[h7,BR]at k4;cases h;exact⟨YA h5 k1,B5 k4.1.1.1.1.1,B5 k4.1.1.1.1.2,B5 k4.1.1.1.2,B5 k4.1.1.2,Bi k4.1.2,Bi k4.2,
   Bi k2,Bi k3⟩
 ·rename_i h6
  simp only[h6]at k4;cases h;exact⟨YA h5 k1,Bi k4,Bi k2,Bi k3⟩
def Vt (tt:Nat->Option A0)(g:Operand->D):Op->Bool
 | .makeSlice t l c=>match tt t with
  |some i=>match i.ti with
   | .slice _ _ eby _=>match g l with
    | .prim (.int _ a)=>match g c with
     | .prim (.int _ b)=>decide (0<=a)&&decide (a<=b)&&decide ((eby:Int)*b<=281474976710656)&&decide (b<=9223372036854775807)
     |_=>true
    |_=>true
   |_=>true
  |none=>true
 |_=>true
theorem vF {tt:Nat->Option A0}{n k:Nat}{g:Operand->D}{op:Op}{d:D}{e:Ay}{p:Prop}(h:Ju tt n k g op=some (d,e,p))(hk:Vt tt g op=true):p:=by
 unfold Ju at h;split at h<;>try(cases h;done)
 simp only[Vt]at hk;split at h<;>try(cases h;done)
 rename_i h1;simp only[h1]at hk;split at h<;>try(cases h;done)
 rename_i h2;simp only[h2]at hk;split at h<;>try(cases h;done)
 rename_i h3;simp only[h3]at hk;split at h<;>try(cases h;done)
 rename_i h4;simp only[h4,BR,Gc]at hk;cases h;exact⟨hk.1.1.1,hk.1.1.2,hk.1.2,hk.2⟩
def Sc (xt:Nat->Option XI)(g:Operand->D):Op->Bool
 | .binOp _ t x _ _=>match xt t with
  |some (.strs n)=>match g x with
   | .agg l=>Nat.beq l.length n
   |_=>true
  |_=>true
 |_=>true
theorem bM {tt:Nat->Option A0}{xt:Nat->Option XI}{g:Operand->D}{op:Op}{d:D}{p:Prop}(h:F8 tt xt g op=some (d,p))(hk:Sc xt g op=true):p:=by
 unfold F8 at h;split at h<;>try(cases h;done)
 ·(repeat' split at h)<;>first|(cases h;done)|(cases h;trivial)
 ·(repeat' split at h)<;>first|(cases h;done)|(cases h;trivial)
 ·simp only[Sc]at hk
  split at h<;>try(cases h;done)
  rename_i h1;simp only[h1]at hk;split at h<;>try(cases h;done)
  rename_i h2;simp only[h2]at hk;split at h<;>try(cases h;done)
  split at h<;>try(cases h;done)
  split at h<;>try(cases h;done)
  cases h;exact hk
def G1 {α:Type}(n:Nat)(k:Nat->α):α:=match n with
 | 0=>k 0
 |m+1=>k (m+1)
def gO {α:Type}(z:Int)(k:Int->α):α:=match z with
 | .ofNat n=>match n with
  | 0=>k (.ofNat 0)
  |m+1=>k (.ofNat (m+1))
 | .negSucc n=>match n with
  | 0=>k (.negSucc 0)
  |m+1=>k (.negSucc (m+1))
def SZ {α:Type}:List UInt8->(List UInt8->α)->α
 | [],k=>k []
 |b::l,k=>G1 b.toNat λn=>SZ l λl'=>k (UInt8.ofNat n::l')
def Vo {α:Type}(v:Value)(k:D->α):α:=match v with
 | .int kd z=>gO z λz'=>k (.prim (.int kd z'))
 | .bool b=>match b with
  |true=>k (.prim (.bool true))
  |false=>k (.prim (.bool false))
 | .string s=>SZ s.data.toList λl=>k (.prim (.string ⟨l.toArray⟩))
 |v=>k (.prim v)
def K3 {α:Type}(d:D)(k:D->α):α:=match d with
 | .prim v=>Vo v k
 | .osl a g sz i len=>G1 a λa=>G1 g λg=>G1 i λi=>G1 len λlen=>k (.osl a g sz i len)
 | .optr a g sz i off=>G1 a λa=>G1 g λg=>G1 i λi=>G1 off λoff=>k (.optr a g sz i off)
 |d=>k d
def Nl {α:Type}:List D->(List D->α)->α
 | [],k=>k []
 |d::l,k=>K3 d λd'=>Nl l λl'=>k (d'::l')
def Nk {α:Type}(d:D)(k:D->α):α:=match d with
 | .agg l=>Nl l λl'=>k (.agg l')
 | .tup l=>Nl l λl'=>k (.tup l')
 | .sl nn sz es=>Nl es λes'=>k (.sl nn sz es')
 |d=>K3 d k
theorem Lf {α:Type}(n:Nat)(k:Nat->α):G1 n k=k n:=by cases n<;>rfl
theorem ug {α:Type}(z:Int)(k:Int->α):gO z k=k z:=by
 cases z with
 |ofNat n=>cases n<;>rfl
 |negSucc n=>cases n<;>rfl
theorem bt {α:Type}:∀(l:List UInt8) (k:List UInt8->α),SZ l k=k l
 | [],_=>rfl
 |b::l,k=>by simp only[SZ,Lf,bt l];congr 2;exact UInt8.ofNat_toNat
theorem uf {α:Type}(v:Value)(k:D->α):Vo v k=k (.prim v):=by
 unfold Vo;split
 ·exact ug _ _
 ·rename_i b;cases b<;>rfl
 ·rw[bt]
 ·rfl
theorem bs {α:Type}(d:D)(k:D->α):K3 d k=k d:=by
 unfold K3;split
 ·exact uf _ _
 ·simp only[Lf]
 ·simp only[Lf]
 ·rfl
theorem RX {α:Type}:∀(l:List D) (k:List D->α),Nl l k=k l
 | [],_=>rfl
 |d::l,k=>by simp only[Nl,bs,RX l]
theorem Mt {α:Type}(d:D)(k:D->α):Nk d k=k d:=by
 unfold Nk;split
 ·exact RX _ _
 ·exact RX _ _
 ·exact RX _ _
 ·exact bs _ _
def Ht (f:D->Bool):List D->Bool
 | []=>true
 |d::l=>f d&&Ht f l
def RG (f:D->Bool):D->Bool
 | .agg l=>Ht f l
 |d=>f d
def HH:Nat->D->Bool
 | 0,_=>false
 |n+1,d=>match d with
  | .any=>true
  | .prim _=>true
  | .agg l=>Ht (HH n) l
  | .tup l=>Ht (HH n) l
  | .sl _ _ es=>Ht (RG (HH n)) es
  | .pptr e=>RG (HH n) e
  | .clo _ a b=>Ht (HH n) a&&Ht (HH n) b
  | .mp a b=>Ht (HH n) a&&Ht (HH n) b
  | .ifc _ d=>HH n d
  |_=>false
theorem Ir {f:D->Bool}:∀ {l:List D},Ht f l=true->∀d∈l,f d=true
 | [],_,_,h=>by simp at h
 |x::l,h,d,hd=>by
  simp only[Ht,BR]at h;rcases BG.1 hd with rfl|hd
  ·exact h.1
  ·exact Ir h.2 d hd
theorem XT {f:D->Bool}{d:D}(h:RG f d=true):∀c∈d.cells,f c=true:=by
 unfold RG at h;split at h
 ·exact Ir h
 ·rename_i hne
  intro c hc;cases d<;>simp only[D.cells,List.mem_singleton]at hc<;>first|(subst hc;exact h)|exact Ad rfl (hne _)
theorem G9:∀ {n:Nat} {d:D},HH n d=true->B6 d
 | 0,_,h=>by cases h
 |n+1,d,h=>by
  simp only[HH]at h;split at h
  ·exact .any
  ·exact .prim _
  ·exact .agg λd hd=>G9 (Ir h d hd)
  ·exact .tup λd hd=>G9 (Ir h d hd)
  ·exact .sl λe he c hc=>G9 (XT (Ir h e he) c hc)
  ·exact .pptr λc hc=>G9 (XT h c hc)
  ·simp only[BR]at h
   exact .clo (λd hd=>G9 (Ir h.1 d hd)) (λd hd=>G9 (Ir h.2 d hd))
  ·simp only[BR]at h
   exact .mp (λd hd=>G9 (Ir h.1 d hd)) (λd hd=>G9 (Ir h.2 d hd))
  ·exact .ifc (G9 h)
  ·cases h
def Ji {α β:Type}(f:α->Option β):List α->Option (List β)
 | []=>some []
 |x::l=>match f x with
  |some y=>match Ji f l with
   |some r=>some (y::r)
   |none=>none
  |none=>none
theorem Mf {α β:Type}{f:α->Option β}:∀ {l:List α} {r:List β},Ji f l=some r->l.length=r.length/\∀(i:Nat) (x:α) (y:β),l[i]?=some x->r[i]?=some y->f x=some y
 | [],r,h=>by simp only[Ji,BM]at h;subst h;simp
 |x::l,r,h=>by
  simp only[Ji]at h;split at h<;>try(cases h;done)
  rename_i y hy;split at h<;>try(cases h;done)
  rename_i r' hr;cases h;obtain⟨h1,h2⟩:=Mf hr;refine⟨by simp[h1],λi a b ha hb=>?_⟩;cases i with
  |zero=>simp at ha hb;subst ha hb;exact hy
  |succ i=>exact h2 i a b (by simpa using ha) (by simpa using hb)
theorem Qf {α β:Type}{f:α->Option β}{l:List α}{r:List β}(h:Ji f l=some r):∀y∈r,∃x∈l,f x=some y:=λy hy=>by
 obtain⟨h1,h2⟩:=Mf h;obtain⟨i,hi,rfl⟩:=Nd hy;exact⟨l[i]'(by omega),List.getElem_mem _,h2 i _ _ (A9 (by omega)) (A9 hi)⟩
def Ub (f:D->Option D)(d:D):Option D:=match d with
 | .agg cs=>match Ji f cs with
  |some cs'=>some (.agg cs')
  |none=>none
 |d=>match f d with
  |some d'=>match JV d' with
   |true=>some d'
   |false=>none
  |none=>none
def Nm:Nat->Hp->D->Option D
 | 0,_,_=>none
 |n+1,H,d=>match d with
  | .agg l=>match Ji (Nm n H) l with
   |some l'=>some (.agg l')
   |none=>none
  | .tup l=>match Ji (Nm n H) l with
   |some l'=>some (.tup l')
   |none=>none
  | .osl k g sz i len=>match Hp.get H k with
   |some e=>match Nat.beq g e.g&&Nat.beq sz e.sz&&Nat.ble (i+len) e.es.length with
    |true=>match Ji (Ub (Nm n H)) ((e.es.drop i).take len)with
     |some es'=>some (.sl false sz es')
     |none=>none
    |false=>none
   |none=>none
  |d=>match HH 20 d with
   |true=>some d
   |false=>none
theorem WA {d:D}(h:JV d=true):d.cells=[d]:=by cases d<;>first|rfl|cases h
theorem S8 {H:Hp}{f:D->Option D}(hf:∀d d',f d=some d'->Fz H [] d d'/\B6 d'){d d':D}(h:Ub f d=some d'):
  d'.cells.length=d.cells.length/\(∀(q:Nat) (c c':D),d.cells[q]?=some c->d'.cells[q]?=some c'->Fz H [] c c')/\∀c∈d'.cells,B6 c:=by
 unfold Ub at h;split at h
 ·rename_i cs
  split at h<;>try(cases h;done)
  rename_i cs' hm;cases h;obtain⟨h1,h2⟩:=Mf hm;refine⟨h1.symm,λq c c' hc hc'=>(hf _ _ (h2 q c c' hc hc')).1,λc hc=>?_⟩;obtain⟨x,_,hx⟩:=Qf hm c hc;exact(hf _ _ hx).2
 ·rename_i hne
  split at h<;>try(cases h;done)
  rename_i d1 hd;split at h<;>try(cases h;done)
  rename_i hn;cases h;have hc:d.cells=[d]:=WA (by cases d<;>first|rfl|exact Ad rfl (hne _));rw[hc,WA hn];refine⟨rfl,λq c c' h1 h2=>?_,λc hc=>?_⟩
  ·cases q with
   |zero=>simp at h1 h2;subst h1 h2;exact(hf _ _ hd).1
   |succ q=>simp at h1
  ·simp at hc;subst hc;exact(hf _ _ hd).2
theorem KW {H:Hp}:∀ {n:Nat} {d d':D},Nm n H d=some d'->Fz H [] d d'/\B6 d'
 | 0,_,_,h=>by cases h
 |n+1,d,d',h=>by
  simp only[Nm]at h;split at h
  ·split at h<;>try(cases h;done)
   rename_i hm;cases h;obtain⟨h1,h2⟩:=Mf hm;refine⟨.agg h1 λi a b ha hb=>(KW (h2 i a b ha hb)).1,.agg λc hc=>?_⟩;obtain⟨x,_,hx⟩:=Qf hm c hc;exact(KW hx).2
  ·split at h<;>try(cases h;done)
   rename_i hm;cases h;obtain⟨h1,h2⟩:=Mf hm;refine⟨.tup h1 λi a b ha hb=>(KW (h2 i a b ha hb)).1,.tup λc hc=>?_⟩;obtain⟨x,_,hx⟩:=Qf hm c hc;exact(KW hx).2
  ·split at h<;>try(cases h;done)
   rename_i k g sz i len _ e he;split at h<;>try(cases h;done)
   rename_i hb;split at h<;>try(cases h;done)
   rename_i es' hm;cases h;simp only[BR]at hb;obtain⟨⟨b1,b2⟩,b3⟩:=hb;have b3:=Bi b3;obtain⟨h1,h2⟩:=Mf hm;have hget:∀(j:Nat) (x:D),j<len->e.es[i+j]?=some x->((e.es.drop i).take len)[j]?=some x:=λj x hj hx=>by
    rw[El,AG hj,Gb];exact hx
   have hlen:es'.length=len:=by rw[<-h1];simp;omega
   refine⟨.osl he rfl (B5 b1) (B5 b2) b3 hlen (λj x y hx hy=>?_) (λj x y q c c' hx hy hc hc'=>?_),.sl λe' he' c hc=>?_⟩
   ·have hj:j<len:=by rw[<-hlen];exact(List.getElem?_eq_some_iff.1 hy).1
    exact(S8 (λ_ _ h=>KW h) (h2 j x y (hget j x hj hx) hy)).1
   ·have hj:j<len:=by rw[<-hlen];exact(List.getElem?_eq_some_iff.1 hy).1
    exact(S8 (λ_ _ h=>KW h) (h2 j x y (hget j x hj hx) hy)).2.1 q c c' hc hc'
   ·obtain⟨x,_,hx⟩:=Qf hm e' he'
    exact(S8 (λ_ _ h=>KW h) hx).2.2 c hc
  ·split at h<;>try(cases h;done)
   rename_i hp;cases h;exact⟨.refl _,G9 hp⟩
structure WR where
 iw:Nat
 ia:Option Nat
 e:Ay
 e':Ay
 R:Hp
def WR.tail (W:WR)(L:Array Bool):Hp:=if L.getD W.iw false=true then W.e'::W.R else match W.ia with
 |none=>W.e::W.R
 |some ia=>if L.getD ia false=true then W.e::W.R else W.R
def WR.start (W:WR):Hp:=match W.ia with
 |none=>W.e::W.R
 |some _=>W.R
theorem gI {W:WR}{L:Array Bool}(h:Ls L W.iw):W.tail L=W.e'::W.R:=AG h
section
variable {C:BC} {F:Aa} {ops:Array Oper}
def J9 (C:BC)(F:Aa)(ops:Array Oper)(W:WR)(g:Nat)(env:Ar)(o:Oper)(d:D):Prop:=
 ∀(He:Hp) (ρ:Lk) (a:Act) (w:World),Ap C F ρ (W.e::He) w->(∀x∈W.R,x∈He)->(∀k,ρ k g=none)->(∀x∈W.e::He,x.g≠g) ->
  (∀t∈o.looksAt ops,AV ρ (AN F.X ρ (W.e::He)) w (env.get t) (a.tmps.getD t undef)) ->
  Region.wanted o (yielded ops a.tmps)=true/\∃v ρ' w',((execOp a.eval o).run C.P w=.ok (.value v) w'\/((execOp a.eval o).run C.P w=.ok .skip w'/\v=undef)) /\
   Ap C F ρ' (W.e'::He) w'/\BW ρ (AN F.X ρ (W.e::He)) w ρ' (AN F.X ρ' (W.e'::He)) w'/\(∀k g',g'≠g->ρ' k g'=ρ k g')/\AV ρ' (AN F.X ρ' (W.e'::He)) w' d v
theorem pi {l:List DU}(hn:(l.map (·.i)).Nodup){a b:DU}(ha:a∈l)(hb:b∈l)(he:a.i=b.i):a=b:=by
 induction l with
 |nil=>simp at ha
 |cons x l ih=>
  rw[Cu,List.nodup_cons]at hn;rcases BG.1 ha with h1|h1
  ·rcases BG.1 hb with h2|h2
   ·rw[h1,h2]
   ·exact Ad (List.mem_map.2 ⟨b,h2,by rw[<-he,h1]⟩) hn.1
  ·rcases BG.1 hb with h2|h2
   ·exact Ad (List.mem_map.2 ⟨a,h1,by rw[he,h2]⟩) hn.1
   ·exact ih hn.2 h1 h2
def NG (C:BC)(F:Aa)(ops:Array Oper)(W:WR)(g:Nat)(env:Ar)(r:DU):Prop:=
 (r.i≠W.iw/\W.ia≠some r.i/\((W.ia=none/\EA ops W.iw r.i/\CP C F ops (W.e::W.R) g env r.o r.d r.ne)\/CP C F ops W.R g env r.o r.d r.ne))\/(r.i=W.iw/\W.ia≠some r.i/\r.ne=none/\J9 C F ops W g env r.o r.d) \/
  (r.i≠W.iw/\W.ia=some r.i/\r.ne=none/\CP C F ops W.R g env r.o r.d (some W.e))
theorem NG.gen {W:WR}{g:Nat}{env:Ar}{r:DU}(h:NG C F ops W g env r):∀e,r.ne=some e->e.g=g:=by
 rcases h with⟨_,_,⟨_,_,h⟩|h⟩|⟨_,_,h,_⟩|⟨_,_,h,_⟩
 ·exact h.1
 ·exact h.1
 ·intro e he;rw[h]at he;cases he
 ·intro e he;rw[h]at he;cases he
theorem gA {H H':Hp}{n:Nat}{env:Ar}{A B:List DU}{r:DU}{L:Array Bool}{a:Act}{w:World}{ρ:Lk}{He:Hp}(h:DI C F H n env (A++r::B) L a w ρ He)(hi:r.i<L.size)(hn:¬Ls L r.i)
  (hnd:((A++r::B).map (·.i)).Nodup) (hdst:(A++r::B).Pairwise (λr r'=>∀t,r.o.dst=some t->r'.o.dst≠some t)) (hok:Dk F.nt r.o=true) {v:Value} {ρ':Lk} {w':World} {He':Hp}
  (pm:Ap C F ρ' He' w') (px:BW ρ (AN F.X ρ He) w ρ' (AN F.X ρ' He') w') (pf:∀k g',g'≠n+r.i->ρ' k g'=ρ k g') (pr:AV ρ' (AN F.X ρ' He') w' r.d v)
  (pp:He'.Perm ((A++r::B).filterMap (λr'=>if(L.setIfInBounds r.i true).getD r'.i false then r'.ne else none)++H')):
  DI C F H' n env (A++r::B) (L.setIfInBounds r.i true) (a.put r.o.dst v) w' ρ' He':=by
 have hset:∀j,Ls (L.setIfInBounds r.i true) j↔j=r.i\/Ls L j:=λj=>Ls.set hi
 have hne:∀r'∈A++B,r'.i≠r.i:=by
  simp only[Cq,Cu]at hnd;intro r' hr' he;rw[Em,List.nodup_cons]at hnd;rcases List.mem_append.1 hr' with hr'|hr'
  ·exact hnd.2.2 r'.i (List.mem_map.2 ⟨r',hr',rfl⟩) r.i (by simp) he
  ·exact hnd.2.1.1 (List.mem_map.2 ⟨r',hr',he⟩)
 have hput:∀t,(a.put r.o.dst v).tmps.getD t undef=if r.o.dst=some t then v else a.tmps.getD t undef:=by
  intro t;cases hd:r.o.dst with
  |none=>simp[Act.put]
  |some k=>
   have hk:k<a.tmps.size:=by
    rw[h.nt];unfold Dk at hok;rw[hd]at hok;exact Nat.blt_eq.mp hok
   show(a.tmps.setIfInBounds k v).getD t undef=_;rw[A7,IZ]
   by_cases hkt:k=t
   ·subst hkt;simp[hk]
   ·rw[AF hkt,AF (by simpa using hkt),<-A7]
 refine⟨pm,pp,λr' hr' hl t ht=>?_,λt ht=>?_,λk g hg hk=>?_,?_,?_⟩
 ·rw[hput]
  by_cases hrr:r'=r
  ·subst hrr;rw[AG ht];exact pr
  ·have hr2:r'∈A++B:=by
    rcases List.mem_append.1 hr' with h|h
    ·simp[h]
    ·rcases BG.1 h with h|h
     ·exact Ad h hrr
     ·simp[h]
   have hl2:=((hset r'.i).1 hl).resolve_left (hne r' hr2);rw[AF]
   ·exact(h.reps r' hr' hl2 t ht).mono px
   ·intro hrt
    rw[Ky,D3]at hdst;rcases List.mem_append.1 hr2 with h|h
    ·exact hdst.2.2 r' h r (by simp) t ht hrt
    ·exact hdst.2.1.1 r' h t hrt ht
 ·rw[hput,AF (ht r (by simp) ((hset r.i).2 (.inl rfl)))]
  exact(h.old t λr' hr' hl=>ht r' hr' ((hset r'.i).2 (.inr hl))).mono px
 ·by_cases hgr:g=n+r.i
  ·exact⟨r,by simp,(hset r.i).2 (.inl rfl),hgr⟩
  ·rw[pf k g hgr]at hk
   obtain⟨r',h1,h2,h3⟩:=h.fresh k g hg hk;exact⟨r',h1,(hset r'.i).2 (.inr h2),h3⟩
 ·cases r.o.dst<;>simp[Act.put,h.nt]
 ·cases r.o.dst<;>simp[Act.put,h.dfr]
theorem iT {W:WR}{Q:Exit->Act->World->Prop}{n:Nat}{env:Ar}{rs:List DU}{suf:List Nat}(ho:O0 ops rs suf)(hiw:W.iw<ops.size)(hwg:W.e'.g=W.e.g\/W.e'.g=n+W.iw)(hgen:∀e∈W.R,e.g<n)(hge:W.ia=none->W.e.g<n)(hga:∀ia,W.ia=some ia->W.e.g=n+ia/\EA ops W.iw ia)(hd:∀r∈rs,Dk F.nt r.o=true)
  (hst:∀A r B,rs=A++r::B->ops[r.i]?=some r.o/\NG C F ops W (n+r.i) (Gm A env) r)
  (hend:∀(L:Array Bool) (a:Act) (w:World) (ρ:Lk) (He:Hp),L.size=ops.size->(∀r∈rs,Ls L r.i)->DI C F (W.e'::W.R) n env rs L a w ρ He->wpOps C.P ops Q suf a w):
  (hw:∀ {L:Array Bool},(∀r∈rs,Ls L r.i)->Ls L W.iw)->∀(fuel:Nat) (L:Array Bool) (a:Act) (w:World) (ρ:Lk) (He:Hp),L.size=ops.size->((rs.map (·.i)++suf).filter (λi=>!L.getD i false)).length<=fuel->Cl ops L->(∀i∈suf,¬Ls L i) ->
   DI C F (W.tail L) n env rs L a w ρ He->wpAny C.P .any ops Q fuel L a w:=by
 intro hw fuel
 induction fuel with
 |zero=>
  intro L a w ρ He hL hf hc hs hi;have h0:(rs.map (·.i)++suf).filter (λi=>!L.getD i false)=[]:=FU (by omega);have hall:∀r∈rs,Ls L r.i:=λr hr=>by
   have:=List.filter_eq_nil_iff.1 h0 r.i (by simp;exact .inl ⟨r,hr,rfl⟩)
   simpa[Ls]using this
  have hsuf:suf=[]:=by
   apply List.eq_nil_iff_forall_not_mem.2;intro i hi2
   have:=List.filter_eq_nil_iff.1 h0 i (by simp[hi2])
   exact hs i hi2 (by simpa[Ls]using this)
  subst hsuf;refine Nv [] 0 L a w hL (Af _) (λi hi2=>⟨λ_=>by simp,λ_=>?_⟩) .nil (λA i B h=>by cases A<;>simp at h) (by simp) hc (hend L a w ρ He hL hall (by have h0:=hi;rw[gI (hw hall)]at h0;exact h0))
  have:=ho.all i hi2
  simp at this;obtain⟨r,hr,rfl⟩:=this;exact hall r hr
 |succ fuel ih=>
  intro L a w ρ He hL hf hc hs hi
  by_cases hall:∀r∈rs,Ls L r.i
  ·refine Nv suf (fuel+1) L a w hL ?_ (λi hi2=>?_) ?_ (λA i B hAB=>⟨λj hj=>?_,λj hj=>ho.suf A i B hAB j (by simp[hj])⟩) (λi hi2=>ho.lt i (by simp[hi2])) hc (hend L a w ρ He hL hall (by have h0:=hi;rw[gI (hw hall)]at h0;exact h0))
   ·refine BX ?_ hf
    rw[List.filter_append,Bc];rw[(List.filter_eq_self (l:=suf)).2 λi hi2=>by have:=hs i hi2;unfold Ls at this;simpa using this];omega
   ·constructor
    ·intro h1 h2;exact hs i h2 h1
    ·intro h1
     have:=ho.all i hi2
     rcases List.mem_append.1 this with h|h
     ·obtain⟨r,hr,rfl⟩:=List.mem_map.1 h;exact hall r hr
     ·exact Ad h h1
   ·exact(Em.1 ho.nodup).2.1
   ·have hA:=ho.first (rs.map (·.i)++A) i B (by simp[hAB]) j hj
    refine⟨ho.lt j (by rw[hAB];rcases List.mem_append.1 hA with h|h<;>simp[h]),λhB=>?_⟩;have hnd:=ho.nodup;rw[hAB,<-De,Em]at hnd;exact hnd.2.2 j hA j hB rfl
  ·have hnot:∃r∈rs,¬Ls L r.i:=by
    apply Dc;intro hn;exact hall λr hr=>Dc λh=>hn ⟨r,hr,h⟩
   have hLt:∀j,j<ops.size->(L.getD j true=true↔Ls L j):=λj hj=>by
    unfold Ls;rw[A7,A7,Bn (by omega)];simp
   have hsome:Region.ready .any ops L≠[]:=by
    obtain⟨r0,hr0,hn0⟩:=hnot
    have:∀X:List DU,∀Y,rs=X++Y->(∃r∈Y,¬Ls L r.i)->(∀r∈X,Ls L r.i)->∃A r B,rs=A++r::B/\¬Ls L r.i/\∀r∈A,Ls L r.i:=by
     intro X Y
     induction Y generalizing X with
     |nil=>rintro _ ⟨r,hr,_⟩ _;simp at hr
     |cons y Y ihY=>
      intro hXY hex hX
      by_cases hy:Ls L y.i
      ·obtain⟨r,hr,hrn⟩:=hex
       rcases BG.1 hr with rfl|hr
       ·exact Ad hy hrn
       ·exact ihY (X++[y]) (by simp[hXY]) ⟨r,hr,hrn⟩ (λr hr=>by
         rcases List.mem_append.1 hr with h|h
         ·exact hX r h
         ·simp at h;subst h;exact hy)
      ·exact⟨X,y,Y,hXY,hy,hX⟩
    obtain⟨A,r,B,h1,h2,h3⟩:=this [] rs rfl ⟨r0,hr0,hn0⟩ (by simp);intro hnil;have hrlt:=ho.lt r.i (by rw[h1];simp)
    have:r.i∈Region.ready .any ops L:=by
     rw[GE];refine⟨hrlt,?_,λj hj=>?_⟩
     ·cases hb:L.getD r.i true with
      |false=>rfl
      |true=>exact Ad ((hLt r.i hrlt).1 hb) h2
     ·have:=ho.first (A.map (·.i)) r.i (B.map (·.i)++suf) (by rw[h1];simp) j hj
      obtain⟨r',hr',rfl⟩:=List.mem_map.1 this;exact h3 r' hr'
    rw[hnil]at this;simp at this
   refine⟨λh0=>Ad h0 hsome,λi hir=>?_⟩;obtain⟨hilt,hin,hid⟩:=GE.1 hir;have hnL:¬Ls L i:=λh=>by rw[(hLt i hilt).2 h]at hin;cases hin
   have hpre:i∈rs.map (·.i):=by
    rcases List.mem_append.1 (ho.all i hilt)with h|h
    ·exact h
    ·obtain⟨A,B,hAB⟩:=FA h
     obtain⟨r0,hr0,hn0⟩:=hnot
     have:=Ha hL hc (ho.suf A i B hAB r0.i (HU _ (List.mem_map.2 ⟨r0,hr0,rfl⟩))) hid
     exact Ad this hn0
   obtain⟨r,hr,rfl⟩:=List.mem_map.1 hpre;obtain⟨A,B,hAB⟩:=FA hr;obtain⟨hor,hstr⟩:=hst A r B hAB;have hset:∀j,Ls (L.setIfInBounds r.i true) j↔j=r.i\/Ls L j:=λj=>Ls.set (by omega)
   have hndr:(rs.map (·.i)).Nodup:=(Em.1 ho.nodup).1;have hgt:∀e∈W.tail L,(e∈W.R\/(e=W.e/\∀ia,W.ia=some ia->Ls L ia)\/(e=W.e'/\Ls L W.iw)):=λe he=>by
    unfold WR.tail at he
    by_cases hwl:L.getD W.iw false=true
    ·rw[AG hwl]at he
     rcases BG.1 he with rfl|he
     ·exact .inr (.inr ⟨rfl,hwl⟩)
     ·exact .inl he
    ·rw[AF hwl]at he
     cases hia:W.ia with
     |none=>
      rw[hia]at he;rcases BG.1 he with rfl|he
      ·exact .inr (.inl ⟨rfl,by simp⟩)
      ·exact .inl he
     |some ia=>
      rw[hia]at he;dsimp only at he
      by_cases hal:L.getD ia false=true
      ·rw[AG hal]at he
       rcases BG.1 he with rfl|he
       ·exact .inr (.inl ⟨rfl,λj hj=>by cases hj;exact hal⟩)
       ·exact .inl he
      ·rw[AF hal]at he
       exact .inl he
   have hfr:∀k,ρ k (n+r.i)=none:=λk=>by
    apply Dc;intro hk;obtain⟨r',h1,h2,h3⟩:=hi.fresh k (n+r.i) (by omega) hk
    have:r'.i=r.i:=by omega
    rw[this]at h2;exact hnL h2
   have hne:∀e∈He,e.g≠n+r.i:=λe he hg=>by
    rcases List.mem_append.1 (hi.perm.mem_iff.1 he)with h|h
    ·obtain⟨r',h1,h2⟩:=List.mem_filterMap.1 h
     split at h2
     ·rename_i hl
      obtain⟨A',B',hAB'⟩:=FA h1
      have:=(hst A' r' B' hAB').2.gen e h2
      have:r'.i=r.i:=by omega
      rw[this]at hl;exact hnL hl
     ·cases h2
    ·have hE:(∀ia,W.ia=some ia->Ls L ia)->W.e.g≠n+r.i:=λhal hg=>by
      cases hia:W.ia with
      |none=>have:=hge hia;omega
      |some ia=>
       have h1:=(hga ia hia).1
       have:ia=r.i:=by omega
       rw[<-this]at hnL;exact hnL (hal ia hia)
     rcases hgt e h with h|⟨rfl,hal⟩|⟨rfl,hl⟩
     ·have:=hgen e h;omega
     ·exact hE hal hg
     ·rcases hwg with h'|h'
      ·refine hE (λia hia=>?_) (by omega)
       refine Ha hL hc (hga ia hia).2 λk hk=>?_
       have hwl':Ls L W.iw:=hl;exact hc W.iw ((hLt W.iw hiw).2 hwl') hiw k hk
      ·have:W.iw=r.i:=by omega
       rw[this]at hl;exact hnL hl
   have go:∀(a':Act) (w':World) (ρ':Lk) (He':Hp),DI C F (W.tail (L.setIfInBounds r.i true)) n env rs (L.setIfInBounds r.i true) a' w' ρ' He'->wpAny C.P .any ops Q fuel (L.setIfInBounds r.i true) a' w':=by
    intro a' w' ρ' He' hn';refine ih _ _ _ ρ' He' (by simp[hL]) ?_ ?_ (λj hj=>?_) hn'
    ·have:((rs.map (·.i)++suf).filter (λi=>!(L.setIfInBounds r.i true).getD i false)).length<((rs.map (·.i)++suf).filter (λi=>!L.getD i false)).length:=by
      have sub:(rs.map (·.i)++suf).filter (λi=>!(L.setIfInBounds r.i true).getD i false)=((rs.map (·.i)++suf).filter (λi=>!L.getD i false)).filter (λi=>!Nat.beq i r.i):=by
       rw[List.filter_filter];apply List.filter_congr;intro x hx;have h1:=hset x;unfold Ls at h1
       by_cases hxr:x=r.i
       ·subst hxr
        have:(L.setIfInBounds r.i true).getD r.i false=true:=h1.2 (.inl rfl)
        simp[this]
       ·have hb:Nat.beq x r.i=false:=by
         cases hb:Nat.beq x r.i with
         |false=>rfl
         |true=>exact Ad (B5 hb) hxr
        rw[hb]
        by_cases hlx:L.getD x false=true
        ·rw[h1.2 (.inr hlx),hlx];rfl
        ·have:¬(L.setIfInBounds r.i true).getD x false=true:=λh=>hlx ((h1.1 h).resolve_left hxr)
         simp only[Bool.not_eq_true]at this hlx;rw[this,hlx];rfl
      rw[sub];apply List.length_filter_lt_length_iff_exists.2;exact⟨r.i,by rw[List.mem_filter];exact⟨by simp;exact .inl ⟨r,hr,rfl⟩,by unfold Ls at hnL;simpa using hnL⟩,by simp⟩
     omega
    ·intro k hk2 hks x hx
     have hk3:Ls (L.setIfInBounds r.i true) k:=by
      unfold Ls;rw[A7,Bn (by simp;omega)]at hk2⊢;simpa using hk2
     show Ls _ x;rw[hset];rcases(hset k).1 hk3 with rfl|hk3
     ·exact .inr (hid x hx)
     ·exact .inr (hc k ((hLt k hks).2 hk3) hks x hx)
    ·rw[hset]
     rintro(rfl|h)
     ·have hnd:=ho.nodup
      rw[Em]at hnd;exact hnd.2.2 r.i (List.mem_map.2 ⟨r,hr,rfl⟩) r.i hj rfl
     ·exact hs j hj h
   have hdst:=ho.dst;rw[hAB]at hdst hndr;have keep:∀ {α:Type} (j:Nat) (x y:α),j≠r.i->(if(L.setIfInBounds r.i true).getD j false=true then x else y)=(if L.getD j false=true then x else y):=λj x y hj=>by
    have:=hset j
    unfold Ls at this
    by_cases hl:L.getD j false=true
    ·rw[AG hl,AG (this.2 (.inr hl))]
    ·rw[AF hl,AF λh=>hl ((this.1 h).resolve_left hj)]
   have wset:r.i≠W.iw->W.ia≠some r.i->W.tail (L.setIfInBounds r.i true)=W.tail L:=λhr hr2=>by
    unfold WR.tail;rw[keep W.iw _ _ (Ne.symm hr)];cases hia:W.ia with
    |none=>rfl
    |some ia=>
     dsimp only;rw[keep ia _ _ λh=>hr2 (by rw[hia,h])]
   have next:r.i≠W.iw->W.ia≠some r.i->∀v ρ' w',Iz C F He ρ w (n+r.i) r.d r.ne v ρ' w'->wpAny C.P .any ops Q fuel (L.setIfInBounds r.i true) (a.put r.o.dst v) w':=by
    intro hriw hria v ρ' w' p;have hi':=hi;rw[hAB]at hi';have hn':=DI.next hi' (by omega) hnL hndr hdst (hd r hr) p;rw[<-hAB,<-wset hriw hria]at hn';exact go _ _ _ _ hn'
   unfold wpOp;simp only[hor];have hR:∀e∈W.R,e∈He:=λe he=>hi.perm.mem_iff.2 (by
    refine List.mem_append_right _ ?_;unfold WR.tail;cases W.ia<;>dsimp only<;>(repeat' split)<;>simp[he])
   have samefm:r.ne=none->∀ {fm:List Ay},(A++r::B).filterMap (λr'=>if L.getD r'.i false then r'.ne else none)=fm ->
     (A++r::B).filterMap (λr'=>if(L.setIfInBounds r.i true).getD r'.i false then r'.ne else none)=fm:=λhnone fm hfm=>by
    rw[<-hfm];refine MT λr' hr'=>?_
    by_cases hrr:r'.i=r.i
    ·have:r'=r:=pi hndr hr' (by simp) hrr
     subst this;rw[hnone];simp
    ·exact keep r'.i _ _ hrr
   rcases hstr with⟨hriw,hria,hstd⟩|⟨hriw,hria,hnone,hstw⟩|⟨hriw,hria,hnone,hstd⟩
   ·have hgo:∀Hr:Hp,(∀e∈Hr,e∈He)->CP C F ops Hr (n+r.i) (Gm A env) r.o r.d r.ne->_:=λHr hsub hs=>hs.2 He ρ a w hi.mem hsub hfr hne (hi.look ho hL hc hAB hir)
    have fin:_:=(show(Region.wanted r.o (yielded ops a.tmps)=false/\r.ne=none/\AV ρ (AN F.X ρ He) w r.d undef)\/(Region.wanted r.o (yielded ops a.tmps)=true/\fL C F He ρ w (n+r.i) r.d r.ne r.o a)from by
     rcases hstd with⟨hia,hre,hs⟩|hs
     ·refine hgo _ (λe he=>hi.perm.mem_iff.2 ?_) hs
      have hnw:¬L.getD W.iw false=true:=λhwl=>hnL (by
       refine Ha hL hc hre λk hk=>?_
       have hwl':Ls L W.iw:=hwl;exact hc W.iw ((hLt W.iw hiw).2 hwl') hiw k hk)
      unfold WR.tail;rw[AF hnw,hia];rcases BG.1 he with rfl|he
      ·simp
      ·simp[he]
     ·exact hgo _ hR hs)
    rcases fin with⟨hw0,hn0,hrep⟩|⟨hw0,hout⟩
    ·rw[AF (by rw[hw0];simp)]
     exact next hriw hria undef ρ w ⟨by rw[hn0];exact hi.mem,by rw[hn0];exact .refl _ _ _,λ_ _ _=>rfl,by rw[hn0];exact hrep⟩
    ·rw[AG hw0]
     refine .inl ?_;unfold Oper.wp;rcases hout with⟨v,ρ',w',h1,h2⟩|⟨f,vs,h1,h2⟩
     ·rw[h1];exact next hriw hria v ρ' w' h2
     ·rw[h1]
      refine h2.mono ?_;rintro e w' ⟨v,rfl,ρ',h3⟩;exact next hriw hria v ρ' w' h3
   ·
    have hnw:¬L.getD W.iw false=true:=λh=>hnL (by rw[hriw];exact h)
    generalize hfm:rs.filterMap (λr'=>if L.getD r'.i false then r'.ne else none)=fm at*;have hperm:He.Perm (W.e::(fm++W.R)):=by
     have h0:=hi.perm;have htl:W.tail L=W.e::W.R:=by
      unfold WR.tail;rw[AF hnw];cases hia:W.ia with
      |none=>rfl
      |some ia=>
       dsimp only;have hre:=(hga ia hia).2;rw[<-hriw]at hre;exact AG (Ha hL hc hre hid)
     rw[htl,hfm]at h0;exact h0.trans HO
    have m1:=hi.mem.perm hperm;have ho1:=AN.perm (X:=F.X) (ρ:=ρ) hperm;obtain⟨hw0,v,ρ',w',hrun,m2,x2,far2,rep2⟩:=hstw (fm++W.R) ρ a w m1 (λe he=>by simp[he]) hfr (λe he=>hne e (hperm.mem_iff.2 he)) (λt ht=>by
     rw[<-ho1];exact hi.look ho hL hc hAB hir t ht)
    rw[<-ho1]at x2;have hi':=hi;rw[hAB]at hi' hfm;have nx:=gA (H':=W.e'::W.R) hi' (by omega) hnL hndr hdst (hd r hr) (v:=v) m2 x2 far2 rep2 (by
     rw[samefm hnone hfm];exact HO.symm)
    have hwt:W.tail (L.setIfInBounds r.i true)=W.e'::W.R:=by
     exact AG ((hset W.iw).2 (.inl hriw.symm))
    rw[<-hAB,<-hwt]at nx;rw[AG hw0];refine .inl ?_;unfold Oper.wp;rcases hrun with hrun|⟨hrun,rfl⟩
    ·rw[hrun];exact go _ _ _ _ nx
    ·rw[hrun];exact go _ _ _ _ nx
   ·
    have htl:W.tail L=W.R:=by
     have hnw:¬L.getD W.iw false=true:=λhwl=>hnL (by
      refine Ha hL hc (hga r.i hria).2 λk hk=>?_
      have hwl':Ls L W.iw:=hwl;exact hc W.iw ((hLt W.iw hiw).2 hwl') hiw k hk)
     unfold WR.tail;rw[AF hnw,hria];exact AF hnL
    have hwt:W.tail (L.setIfInBounds r.i true)=W.e::W.R:=by
     have hnw:¬(L.setIfInBounds r.i true).getD W.iw false=true:=λhwl=>by
      rcases(hset W.iw).1 hwl with h|h
      ·exact hriw h.symm
      ·exact hnL (by
        refine Ha hL hc (hga r.i hria).2 λk hk=>?_
        exact hc W.iw ((hLt W.iw hiw).2 h) hiw k hk)
     unfold WR.tail;rw[AF hnw,hria];exact AG ((hset r.i).2 (.inl rfl))
    have nxt:∀v ρ' w',Iz C F He ρ w (n+r.i) r.d (some W.e) v ρ' w'->wpAny C.P .any ops Q fuel (L.setIfInBounds r.i true) (a.put r.o.dst v) w':=λv ρ' w' p=>by
     have hi':=hi;rw[hAB]at hi';have nx:=gA (H':=W.e::W.R) hi' (by omega) hnL hndr hdst (hd r hr) (v:=v) p.mem p.ext p.far p.rep (by
      rw[samefm hnone rfl];have h0:=hi'.perm;rw[htl]at h0;exact(List.Perm.cons W.e h0).trans HO.symm)
     rw[<-hAB,<-hwt]at nx;exact go _ _ _ _ nx
    rcases hstd.2 He ρ a w hi.mem hR hfr hne (hi.look ho hL hc hAB hir)with⟨hw0,hn0,hrep⟩|⟨hw0,hout⟩
    ·cases hn0
    ·rw[AG hw0]
     refine .inl ?_;unfold Oper.wp;rcases hout with⟨v,ρ',w',h1,h2⟩|⟨f,vs,h1,h2⟩
     ·rw[h1];exact nxt v ρ' w' h2
     ·rw[h1]
      refine h2.mono ?_;rintro e w' ⟨v,rfl,ρ',h3⟩;exact nxt v ρ' w' h3
inductive IT (C:BC)(F:Aa)(ops:Array Oper)(W:WR)(n:Nat):List Nat->Ar->Hp->Ar->Hp->Prop
 |nil (env:Ar) (N:Hp):IT C F ops W n [] env N env N
 |cons {i:Nat} {l:List Nat} {o:Oper} {d:D} {ne:Option Ay} {env env':Ar} {N N':Hp} (ho:ops[i]?=some o) (hs:NG C F ops W (n+i) env ⟨i,o,d,ne⟩)
   (h:IT C F ops W n l (Bb env o.dst d) (Cz ne N) env' N'):IT C F ops W n (i::l) env N env' N'
theorem IT.recs {W:WR}{n:Nat}{l:List Nat}{env env':Ar}{N N':Hp}(h:IT C F ops W n l env N env' N'):
  ∃rs:List DU,rs.map (·.i)=l/\env'=Gm rs env/\N'=NB rs N /\
   ∀A r B,rs=A++r::B->ops[r.i]?=some r.o/\NG C F ops W (n+r.i) (Gm A env) r:=by
 induction h with
 |nil env N=>exact⟨[],rfl,rfl,rfl,λA r B h=>by cases A<;>simp at h⟩
 | @cons i l o d ne env env' N N' ho hs _ ih=>
  obtain⟨rs,h1,h2,h3,h4⟩:=ih;refine⟨⟨i,o,d,ne⟩::rs,by simp[h1],h2,h3,λA r B hr=>?_⟩;cases A with
  |nil=>
   simp only[EZ,FB]at hr;obtain⟨rfl,rfl⟩:=hr;exact⟨ho,hs⟩
  |cons r0 A=>
   simp only[ED,FB]at hr;obtain⟨rfl,rfl⟩:=hr;exact h4 A r B rfl
theorem gD {W:WR}{s:St}{Q:Exit->St->Prop}{pre suf:List Nat}{envF:Ar}{N:Hp}(hc:Hu ops pre suf=true)
  (hH:s.H.Perm W.start) (hga:∀ia,W.ia=some ia->W.e.g=s.n+ia/\EA ops W.iw ia/\ia∈pre) (hiw:W.iw∈pre) (hwg:W.e'.g=W.e.g\/W.e'.g=s.n+W.iw)
  (hpre:IT C F ops W s.n pre s.env [] envF N)
  (h:BJ C F ops (suf.map λj=>ops.getD j default) ⟨envF,N++W.e'::W.R,s.n+ops.size⟩ (Q .normal)) (hd:ops.toList.all (Dk F.nt)=true) (ρ:Lk) (a:Act) (w:World) (hs:Bl C F ρ s a w):
  wpAny C.P .any ops (K7 C F (Q .normal)) ops.size (Array.replicate ops.size false) a w.drew:=by
 obtain⟨rs,h1,h2,h3,h4⟩:=hpre.recs;have hor:∀r∈rs,ops[r.i]?=some r.o:=λr hr=>by
  obtain⟨A,B,hAB⟩:=FA hr;exact(h4 A r B hAB).1
 have ho:=Tp h1 hor hc;have hds:∀r∈rs,Dk F.nt r.o=true:=λr hr=>by
  refine CQ.1 hd r.o ?_
  have:=hor r hr
  exact Array.mem_toList_iff.2 (Ig this)
 have hrep:∀j,(Array.replicate ops.size false).getD j false=false:=λj=>by
  rw[A7];rw[NV];split<;>rfl
 have hnL:∀j,¬Ls (Array.replicate ops.size false) j:=λj hj=>by unfold Ls at hj;rw[hrep]at hj;cases hj
 have hgen:∀e∈W.R,e.g<s.n:=λe he=>hs.gen e (hH.mem_iff.2 (by unfold WR.start;cases W.ia<;>simp[he]))
 have hge:W.ia=none->W.e.g<s.n:=λhia=>hs.gen _ (hH.mem_iff.2 (by unfold WR.start;rw[hia];simp))
 have hlw:=ho.lt W.iw (by rw[h1];simp[hiw]);have htl:W.tail (Array.replicate ops.size false)=W.start:=by
  unfold WR.tail WR.start;rw[AF (by rw[hrep];simp)];cases W.ia with
  |none=>rfl
  |some ia=>exact AF (by rw[hrep];simp)
 have hin:DI C F (W.tail (Array.replicate ops.size false)) s.n s.env rs (Array.replicate ops.size false) a w.drew ρ s.H:=by
  refine⟨hs.mem.drew,?_,λr _ hl=>Ad hl (hnL _),λt _=>(hs.env t).mono (.drew _ _ _),λk g hg hk=>Ad (hs.fresh k g hg) hk,hs.nt,hs.dfr⟩
  have:rs.filterMap (λr=>if(Array.replicate ops.size false).getD r.i false then r.ne else none)=[]:=by
   rw[Vk];intro r _;rw[hrep];rfl
  rw[this,htl];exact hH
 refine iT ho hlw hwg hgen hge (λia h=>⟨(hga ia h).1,(hga ia h).2.1⟩) hds h4 ?_ (λhall=>by
  rw[<-h1]at hiw;obtain⟨r,hr,he⟩:=List.mem_map.1 hiw;rw[<-he];exact hall r hr) ops.size _ a w.drew ρ s.H (by simp) ?_ ?_ (λj _=>hnL j) hin
 ·intro L a' w' ρ' He hL hall hi
  have hN:He.Perm (N++W.e'::W.R):=by
   refine hi.perm.trans (List.Perm.append_right _ ?_);have e:rs.filterMap (λr=>if L.getD r.i false then r.ne else none)=rs.filterMap (·.ne):=MT λr hr=>by
    have:=hall r hr;unfold Ls at this;rw[this];rfl
   rw[e,h3]
   have:=LJ rs []
   rw[C5]at this;exact this.symm
  refine h ?_ suf ?_ ρ' a' w' ⟨hi.mem.perm hN,?_,?_,λt=>?_,hi.nt,hi.dfr⟩
  ·rw[CQ]
   intro o' ho';obtain⟨j,hj,rfl⟩:=List.mem_map.1 ho';have hlt:=ho.lt j (by simp[hj]);refine CQ.1 hd _ ?_;rw[A7,Bn hlt];simp
  ·rw[List.map_map]
   refine Nf λj hj=>?_
   have hlt:=ho.lt j (by simp[hj]);simp[A7,Bn hlt]
  ·intro k g hg
   apply Dc;intro hk;obtain⟨r,hr,_,he⟩:=hi.fresh k g (by simp at hg;omega) hk
   have:=ho.lt r.i (by simp;exact .inl ⟨r,hr,rfl⟩)
   simp at hg;omega
  ·intro e he
   rcases List.mem_append.1 he with he|he
   ·rw[h3]at he
    have he:=(LJ rs []).mem_iff.1 he;rw[C5]at he;obtain⟨r,hr,hre⟩:=List.mem_filterMap.1 he;obtain⟨A,B,hAB⟩:=FA hr
    have:=(h4 A r B hAB).2.gen e hre
    have:=ho.lt r.i (by simp;exact .inl ⟨r,hr,rfl⟩)
    show e.g<s.n+ops.size;omega
   ·show e.g<s.n+ops.size
    rcases BG.1 he with rfl|he
    ·have hE:W.e.g<s.n+ops.size:=by
      cases hia:W.ia with
      |none=>have:=hge hia;omega
      |some ia=>
       obtain⟨q1,_,q3⟩:=hga ia hia
       have:=ho.lt ia (by rw[h1];simp[q3])
       omega
     rcases hwg with h|h<;>omega
    ·have:=hgen e he
     omega
  ·show AV ρ' (AN F.X ρ' (N++W.e'::W.R)) w' (envF.get t) _
   rw[<-AN.perm hN,h2]
   by_cases hw:∃r∈rs,r.o.dst=some t
   ·obtain⟨r,hr,hrd⟩:=hw
    rw[OK rs s.env t ho.dst r hr hrd];exact hi.reps r hr (hall r hr) t hrd
   ·rw[LA rs s.env t λr hr hrd=>hw ⟨r,hr,hrd⟩]
    exact hi.old t λr hr _ hrd=>hw ⟨r,hr,hrd⟩
 ·refine BX (List.length_filter_le _ _) ?_
  have hsub:∀(l:List Nat) (n:Nat),l.Nodup->(∀x∈l,x<n)->l.length<=n:=by
   intro l n
   induction n generalizing l with
   |zero=>intro _ h;cases l with
    |nil=>simp
    |cons x l=>exact Ad (h x (by simp)) (by omega)
   |succ n ihn=>
    intro hnd hlt;have h1:=ihn (l.erase n) (hnd.erase n) λx hx=>by
     have:=hlt x (List.mem_of_mem_erase hx)
     have:x≠n:=λh=>by subst h;exact(Vm hnd) hx
     omega
    have:=List.length_erase (a:=n) (l:=l)
    split at this<;>omega
  exact hsub _ _ ho.nodup ho.lt
 ·intro k hk
  have:k<ops.size\/¬k<ops.size:=by omega
  rcases this with hlt|hlt
  ·rw[A7,NV,AG hlt]at hk;cases hk
  ·intro h;exact Ad h hlt
theorem li {P:Program}{o:Oper}{a:Act}{R R':Exit->Act->World->Prop}{K K':Act->World->Prop}(hk:∀a w,K a w->K' a w)(h:∀e a w,R e a w->R' e a w):∀r,o.upon P a K R r->o.upon P a K' R' r:=λr hr=>by
 unfold Oper.upon at hr⊢;split at hr
 ·exact hk _ _ hr
 ·exact hk _ _ hr
 ·exact hk _ _ hr
 ·refine hr.mono ?_
  intro e w'' q;cases e with
  |returned v=>exact hk _ _ q
  |panicked c=>exact h _ _ _ q
  |outgrown=>obtain⟨a,w,q⟩:=q;exact⟨a,w,h _ _ _ q⟩
 ·exact λc cs=>by
   obtain⟨v,w',h1,h2⟩:=hr c cs;exact⟨v,w',hk _ _ h1,h2⟩
 ·exact h _ _ _ hr
 ·exact hr.elim
theorem QH {P:Program}{R R':Exit->Act->World->Prop}(h:∀e a w,R e a w->R' e a w):∀(fuel:Nat) (L:Array Bool) (a:Act) (w:World),wpAny P .any ops R fuel L a w->wpAny P .any ops R' fuel L a w
 | 0,L,a,w,hh=>⟨hh.1,h _ _ _ hh.2⟩
 |fuel+1,L,a,w,hh=>⟨λh0=>h _ _ _ (hh.1 h0),λi hi=>by
   have hq:=hh.2 i hi;unfold wpOp at hq⊢;split
   ·rename_i ho;simp only[ho]at hq;exact QH h _ _ _ _ hq
   ·rename_i o ho
    simp only[ho]at hq;split
    ·rename_i hw
     rw[AG hw]at hq;rcases hq with hq|⟨h1,a,w,h2⟩
     ·exact .inl (li (λa w=>QH h _ _ a w) h _ hq)
     ·exact .inr ⟨h1,a,w,h _ _ _ h2⟩
    ·rename_i hw
     rw[AF hw]at hq;exact QH h _ _ _ _ hq⟩
theorem zS {W:WR}{i:Nat}{s:St}{Q:Exit->St->Prop}{pre suf:List Nat}{envF:Ar}{N:Hp}(hm:C.P.follows .mixedOrders=true)(hc:Hu ops pre suf=true)
  (hH:s.H.Perm W.start) (hga:∀ia,W.ia=some ia->W.e.g=s.n+ia/\EA ops W.iw ia/\ia∈pre) (hiw:W.iw∈pre) (hwg:W.e'.g=W.e.g\/W.e'.g=s.n+W.iw)
  (hpre:IT C F ops W s.n pre s.env [] envF N)
  (h:BJ C F ops (suf.map λj=>ops.getD j default) ⟨envF,N++W.e'::W.R,s.n+ops.size⟩ (Q .normal)):Ok C F (.region i ops true) s Q:=λhd ρ a w hs=>by
 refine wp_region_any hm (QH (λe a w h=>?_) _ _ _ _ (gD hc hH hga hiw hwg hpre h hd ρ a w hs));obtain⟨rfl,s',ρ',h1,h2⟩:=h;exact⟨s',ρ',h1,h2⟩
theorem jk {tt:Nat->Option A0}{H:Hp}{g g':Operand->D}{op:Op}(h:∀x∈op.operands,g x=g' x):FD tt H g op=FD tt H g' op:=by
 cases op<;>simp only[Op.operands]at h<;>try rfl
 case store t x y=>simp only[FD];rw[h x (by simp),h y (by simp)]
theorem mq {tt:Nat->Option A0}{e:Ay}{He:Hp}{g:Operand->D}{op:Op}{k:Nat}{e':Ay}{p:Prop}(h:FD tt [e] g op=some (k,e',p)):
  FD tt (e::He) g op=some (k,e',p)/\Hp.set (e::He) k e'=e'::He/\e'.g=e.g:=by
 unfold FD at h;split at h<;>try(cases h;done)
 rename_i t x y;simp only[FD];split at h<;>try(cases h;done)
 rename_i i hi
 try simp only[hi]
 split at h<;>try(cases h;done)
 rename_i h1
 try simp only[h1]
 split at h<;>try(cases h;done)
 rename_i e1 h2;have hb:Nat.beq e.k k=true/\e1=e:=by
  split at h<;>try(cases h;done)
  cases h;simp only[Hp.get]at h2;split at h2
  ·rename_i hb;cases h2;exact⟨hb,rfl⟩
  ·cases h2
 have hget:∀k0,Hp.get [e] k0=some e1->Hp.get (e::He) k0=some e1:=λk0 hk=>by
  simp only[Hp.get]at hk⊢;split at hk
  ·exact hk
  ·cases hk
 try rw[hget _ h2]
 split at h<;>try(cases h;done)
 rename_i h3;cases h;refine⟨by first|rfl|simp only[h3],?_,by rw[hb.2]⟩;simp only[Hp.set,hb.1]
theorem J9.store {W:WR}{g:Nat}{env:Ar}{o:Oper}{tt:Nat->Option A0}(htt:Cr C.P tt){k:Nat}{p:Prop}(hw:CD ops env o=some true)(he:FD tt [W.e] (BI env) o.op=some (k,W.e',p))(hp:p):
  J9 C F ops W g env o (.prim (.tuple #[])):=λHe ρ a w m _ _ _ hr=>by
 refine⟨IB hr hw,?_⟩;obtain⟨g',h1,h2⟩:=Iq hr;rw[jk h1]at he;obtain⟨q1,q2,_⟩:=mq (He:=He) he;obtain⟨w',r1,r2,r3,_⟩:=Xh (s:=⟨[],W.e::He,0⟩) htt m h2 q1 hp;simp only[q2]at r2 r3;exact⟨undef,ρ,w',.inr ⟨r1,rfl⟩,r2,r3,λ_ _ _=>rfl,.prim _⟩
theorem XX {tt:Nat->Option A0}{H:Hp}{n k:Nat}{g g':Operand->D}{op:Op}(h:∀x∈op.operands,g x=g' x):EG tt H n k g op=EG tt H n k g' op:=by
 unfold EG;split
 ·rename_i args tys
  cases hargs:args.toList with
  |nil=>rfl
  |cons s r=>
   cases r with
   |nil=>rfl
   |cons x r=>
    cases r with
    |nil=>
     have hs:s∈args.toList:=by rw[hargs];simp
     have hx:x∈args.toList:=by rw[hargs];simp
     dsimp only;rw[h s (by simp[Op.operands,Call.operands];simpa using hs),h x (by simp[Op.operands,Call.operands];simpa using hx)]
    |cons=>rfl
 ·rfl
theorem ZH {e e1:Ay}{k:Nat}{He:Hp}(h:Hp.get [e] k=some e1):e1=e/\Hp.get (e::He) k=some e/\Hp.del (e::He) k=He/\Hp.del [e] k=[]:=by
 simp only[Hp.get]at h;split at h
 ·rename_i hb
  cases h;refine⟨rfl,?_,?_,?_⟩
  ·simp only[Hp.get,hb]
  ·simp only[Hp.del,hb]
  ·simp only[Hp.del,hb]
 ·cases h
theorem ku {e:Ay}{He:Hp}{esz:Nat}{d:D}{r:List D×Prop}(h:Hy [e] esz d=some r):Hy (e::He) esz d=some r:=by
 unfold Hy at h⊢;split at h<;>try exact h
 split at h<;>try(cases h;done)
 rename_i h1;obtain⟨rfl,h2,_,_⟩:=ZH (He:=He) h1;rw[h2];exact h
theorem mn {tt:Nat->Option A0}{e e':Ay}{He:Hp}{n k:Nat}{g:Operand->D}{op:Op}{d:D}{p:Prop}(h:EG tt [e] n k g op=some (d,[e'],p)):
  EG tt (e::He) n k g op=some (d,e'::He,p)/\e'.g=n:=by
 unfold EG at h⊢;split at h<;>try(cases h;done)
 split at h<;>try(cases h;done)
 rename_i h1
 try rw[h1]
 try dsimp only
 split at h<;>try(cases h;done)
 rename_i h2
 try rw[h2]
 try dsimp only
 split at h<;>try(cases h;done)
 rename_i h3
 try rw[h3]
 try dsimp only
 split at h<;>try(cases h;done)
 rename_i h4
 try rw[h4]
 try dsimp only
 split at h<;>try(cases h;done)
 rename_i h5
 try rw[h5]
 try dsimp only
 split at h<;>try(cases h;done)
 rename_i h6
 try rw[ku h6]
 try dsimp only
 split at h<;>try(cases h;done)
 ·rename_i h7
  try rw[h7]
  try dsimp only
  split at h<;>try(cases h;done)
  rename_i h8;obtain⟨rfl,a1,a2,a3⟩:=ZH (He:=He) h8
  try rw[a1]
  try dsimp only
  rw[a3]at h;rw[a2];cases h;exact⟨rfl,rfl⟩
theorem gL {W:WR}{g:Nat}{env:Ar}{o:Oper}{tt:Nat->Option A0}(k:Nat)(htt:Cr C.P tt){d:D}{p:Prop}(hw:CD ops env o=some true)(he:EG tt [W.e] g k (BI env) o.op=some (d,[W.e'],p))(hp:p):
  J9 C F ops W g env o d:=λHe ρ a w m _ fr hne hr=>by
 refine⟨IB hr hw,?_⟩;obtain⟨g',h1,h2⟩:=Iq hr;rw[XX h1]at he;obtain⟨q1,_⟩:=mn (He:=He) he;obtain⟨v,ρ',w',r1,r2⟩:=TK htt m fr hne h2 q1 hp;exact⟨v,ρ',w',.inl r1,r2.mem,r2.ext,r2.far,r2.rep⟩
theorem YN {tt:Nat->Option A0}{e':Ay}{He:Hp}{n k:Nat}{g:Operand->D}{op:Op}{d:D}{p:Prop}(h:EG tt [] n k g op=some (d,[e'],p)):
  EG tt He n k g op=some (d,e'::He,p)/\e'.g=n:=by
 have src:∀ {esz:Nat} {x:D} {r:List D×Prop},Hy [] esz x=some r->Hy He esz x=some r:=λ{esz x r} h=>by
  unfold Hy at h⊢;split at h<;>try exact h
  split at h<;>try(cases h;done)
  rename_i h1;cases h1
 unfold EG at h⊢;split at h<;>try(cases h;done)
 split at h<;>try(cases h;done)
 rename_i h1
 try rw[h1]
 try dsimp only
 split at h<;>try(cases h;done)
 rename_i h2
 try rw[h2]
 try dsimp only
 split at h<;>try(cases h;done)
 rename_i h3
 try rw[h3]
 try dsimp only
 split at h<;>try(cases h;done)
 rename_i h4
 try rw[h4]
 try dsimp only
 split at h<;>try(cases h;done)
 rename_i h5
 try rw[h5]
 try dsimp only
 split at h<;>try(cases h;done)
 rename_i h6
 try rw[src h6]
 try dsimp only
 split at h<;>try(cases h;done)
 cases h;exact⟨rfl,rfl⟩
theorem gJ {H:Hp}{g:Nat}{env:Ar}{o:Oper}{e:Ay}{tt:Nat->Option A0}(k:Nat)(htt:Cr C.P tt){d:D}{p:Prop}(hw:CD ops env o=some true)(he:EG tt [] g k (BI env) o.op=some (d,[e],p))(hp:p):
  CP C F ops H g env o d (some e):=by
 refine⟨λe' h=>by cases h;exact(YN (He:=[]) he).2,λHe ρ a w m _ fr hne hr=>.inr ⟨IB hr hw,.inl ?_⟩⟩;obtain⟨g',h1,h2⟩:=Iq hr;rw[XX h1]at he;obtain⟨q1,_⟩:=YN (He:=He) he;obtain⟨v,ρ',w',r1,r2⟩:=TK htt m fr hne h2 q1 hp;exact⟨v,ρ',w',r1,r2.mem,r2.ext,r2.far,r2.rep⟩
end
noncomputable section
structure FI where
 nt:Nat
 res:List ResultVar
 code:Code
structure EV where
 tt:Nat->Option A0
 xt:Nat->Option XI
 ft:Nat->Option FI
 np:Nat->Bool
 orc:Nat->List D->Option D
 mt:Nat->String->Option Nat
 nat:Nat->List D->Option D
structure FM (C:BC)(X:EV):Prop where
 tt:Cr C.P X.tt
 xt:L4 C.P X.xt
 ft:∀f i,X.ft f=some i->∃fn,C.P.funcs[f]?=some fn/\fn.body=some i.code/\(fn.name == "runtime.NumGoroutine")=false/\DM fn.ntmps i.code=true/\fn.ntmps=i.nt/\fn.results.toList=i.res
 orc:∀f ds d,X.orc f ds=some d->AK C f ds d/\Aj ds
 mixed:C.P.follows .mixedOrders=true
 mt:∀t name f,X.mt t name=some f->∀v w,(method (C.P.types.size+Made.depth) t v name).run C.P w=.ok (f,v) w
 nat:∀f ds d,X.nat f ds=some d->KP C f ds d
noncomputable def VU (env:Ar)(t:Nat):D:=List.rec (motive:=λ_=>D) .any (λp _ ih=>Bool.rec (motive:=λ_=>D) ih p.2 (Nat.beq p.1 t)) env
theorem ZG (t:Nat):∀env:Ar,VU env t=env.get t
 | []=>rfl
 |(k,d)::r=>by
  show Bool.rec (motive:=λ_=>D) (VU r t) d (Nat.beq k t)=_;rw[ZG t r];simp only[Ar.get];cases Nat.beq k t<;>rfl
noncomputable def NN (env:Ar)(x:Operand):D:=match x with
 | .tmp t=>VU env t
 | .const v=>KV v
 | .global g=>.prim (.pointer (some ⟨g,0,none⟩))
 | .func f=>.clo (.func f) [] []
theorem OW (env:Ar):NN env=BI env:=by
 funext x
 cases x<;>first|rfl|exact ZG _ _
noncomputable def SA (i:Nat)(l:List Nat):Bool:=List.rec (motive:=λ_=>Bool) false (λj _ ih=>Bool.rec (motive:=λ_=>Bool) ih true (Nat.beq i j)) l
theorem Y8 (i:Nat):∀l:List Nat,SA i l=Ca i l
 | []=>rfl
 |j::l=>by
  show Bool.rec (motive:=λ_=>Bool) (SA i l) true (Nat.beq i j)=_;rw[Y8 i l];simp only[Ca];cases Nat.beq i j<;>rfl
abbrev IP:=Nat->List D->Hp->Nat->Option (D×Hp×Nat)
abbrev Hm:=Nat->List D->Option D
def Jj (b:Bool)(r:D×Hp×Nat):Option (D×Hp×Nat):=match b with
 |true=>some r
 |false=>none
def R8 (tt:Nat->Option A0)(g:Operand->D)(t:Nat)(x ix:Operand):Option D:=match tt t with
 |some i=>match i.ti with
  | .slice _ esz _ _=>match g ix with
   | .prim (.int _ j)=>match g x with
    | .sl _ sz es=>match Nat.beq sz esz&&decide (0<=j)with
     |true=>match es[j.toNat]? with
      |some d=>some (.pptr d)
      |none=>none
     |false=>none
    |_=>none
   |_=>none
  |_=>none
 |none=>none
def PL (X:EV)(g:Operand->D)(H:Hp)(n:Nat)(op:Op):Option (D×Hp×Nat):=match Gf X.tt g op with
 |some (d,_)=>Jj (MH X.tt g op) (d,H,n+1)
 |none=>none
def R7 (X:EV)(g:Operand->D)(H:Hp)(n:Nat)(op:Op):Option (D×Hp×Nat):=match F8 X.tt X.xt g op with
 |some (d,_)=>Jj (Sc X.xt g op) (d,H,n+1)
 |none=>none
def KM {α:Type}(a:Option α)(b:Option α):Option α:=match a with
 |some x=>some x
 |none=>b
def fU (X:EV)(cl:IP)(g:Operand->D)(H:Hp)(n:Nat)(op:Op):Option (D×Hp×Nat):=match op with
 | .call ⟨.value fop,args,_⟩=>match g fop with
  | .clo (.func f) first captured=>match X.nat f (first++args.toList.map g++captured)with
   |some d=>some (d,H,n+1)
   |none=>cl f (first++args.toList.map g++captured) H n
  |_=>none
 | .call ⟨.invoke r name,args,_⟩=>match g r with
  | .ifc t d0=>match X.mt t name with
   |some f=>cl f (d0::args.toList.map g) H n
   |none=>none
  |_=>none
 | .call ⟨.builtin .append,_,_⟩=>match EG X.tt H n n g op with
  |some (d,H',_)=>Jj (Pp X.tt H g op) (d,H',n+1)
  |none=>none
 | .makeSlice _ _ _=>match Ju X.tt n n g op with
  |some (d,e,_)=>Jj (Vt X.tt g op) (d,e::H,n+1)
  |none=>none
 | .store _ _ _=>match FD X.tt H g op with
  |some (k,e,_)=>Jj (Sd X.tt H g op) (.prim (.tuple #[]),Hp.set H k e,n+1)
  |none=>none
 | .load _ _ | .alloc _ | .box _ _ | .buildSlice _ _ _=>match EO X.tt H n n g op with
  |some (d,ne,_)=>Jj (Jy X.tt H g op) (d,Cz ne H,n+1)
  |none=>none
 | .indexAddr t x ix=>KM (PL X g H n op) (match R8 X.tt g t x ix with
  |some d=>some (d,H,n+1)
  |none=>none)
 | .makeInterface _ _ | .lookup _ _ _ _=>R7 X g H n op
 | .binOp _ _ _ _ _=>KM (PL X g H n op) (R7 X g H n op)
 |_=>PL X g H n op
def US (X:EV)(cl:IP)(ops:Array Oper)(s:St)(o:Oper):Option (D×Hp×Nat):=match CD ops s.env o with
 |some true=>fU X cl (NN s.env) s.H s.n o.op
 |some false=>some (.prim (.tuple #[]),s.H,s.n+1)
 |none=>none
def Lq (X:EV)(cl:IP)(ops:Array Oper):List Oper->St->Option St
 | [],s=>some s
 |o::os,s=>match US X cl ops s o with
  |some (d,H',n')=>Nk d λd=>G1 n' λn'=>Lq X cl ops os ⟨Bb s.env o.dst d,H',n'⟩
  |none=>none
def Sa (d:D)(H:Hp)(n:Nat):D->Hp->Nat->Prop:=λd1 H1 n1=>d1=d/\H1=H/\n1=n
def Ma (C:BC)(cl:IP):Prop:=∀f ds H n d H' n',cl f ds H n=some (d,H',n')->Cd C f ds H n (Sa d H' n')
def La (C:BC)(cp:Hm):Prop:=∀f ds d,cp f ds=some d->AK C f ds d/\Aj ds
section
variable {C:BC} {F:Aa} {X:EV} {cl:IP} {cp:Hm} {ops:Array Oper}
theorem LE {b:Bool}{r r':D×Hp×Nat}(h:Jj b r=some r'):b=true/\r=r':=by
 cases b
 ·cases h
 ·cases h;exact⟨rfl,rfl⟩
theorem Xf {tt:Nat->Option A0}{g:Operand->D}{t:Nat}{x ix:Operand}{d:D}(h:R8 tt g t x ix=some d):∃i e esz eby ez kk j nn es d',tt t=some i/\i.ti=.slice e esz eby ez/\g ix=.prim (.int kk j) /\
  g x=.sl nn esz es/\0<=j/\es[j.toNat]?=some d'/\d=.pptr d':=by
 unfold R8 at h;split at h<;>try(cases h;done)
 rename_i i h1;split at h<;>try(cases h;done)
 rename_i e esz eby ez h2;split at h<;>try(cases h;done)
 rename_i kk j h3;split at h<;>try(cases h;done)
 rename_i nn sz es h4;split at h<;>try(cases h;done)
 rename_i h5;split at h<;>try(cases h;done)
 rename_i d' h6;cases h;simp only[BR,Gc]at h5;obtain rfl:=B5 h5.1;exact⟨i,e,sz,eby,ez,kk,j,nn,es,d',h1,h2,h3,h4,h5.2,h6,rfl⟩
theorem jl (hX:FM C X)(hcl:Ma C cl){s:St}{o:Oper}{os:List Oper}{K:St->Prop}{d:D}{H':Hp}{n':Nat}(h:US X cl ops s o=some (d,H',n'))
  (hk:BJ C F ops os ⟨Bb s.env o.dst d,H',n'⟩ K):BJ C F ops (o::os) s K:=by
 unfold US at h;rw[OW]at h;split at h<;>try(cases h;done)
 ·rename_i hw
  have pe:PL X (BI s.env) s.H s.n o.op=some (d,H',n')->BJ C F ops (o::os) s K:=λh=>by
   unfold PL at h;split at h<;>try(cases h;done)
   rename_i hp;obtain⟨hb,hr⟩:=LE h;cases hr;exact BJ.p hX.tt hw hp (bK hp hb) hk
  have qe:R7 X (BI s.env) s.H s.n o.op=some (d,H',n')->BJ C F ops (o::os) s K:=λh=>by
   unfold R7 at h;split at h<;>try(cases h;done)
   rename_i hp;obtain⟨hb,hr⟩:=LE h;cases hr;exact BJ.q hX.tt hX.xt hw hp (bM hp hb) hk
  have le:∀r,(match EO X.tt s.H s.n s.n (BI s.env) o.op with
    |some (d,ne,_)=>Jj (Jy X.tt s.H (BI s.env) o.op) (d,Cz ne s.H,s.n+1)
    |none=>none)=some r->r=(d,H',n')->BJ C F ops (o::os) s K:=λr h hr=>by
   split at h<;>try(cases h;done)
   rename_i hp;obtain⟨hb,hr'⟩:=LE h;rw[<-hr']at hr;cases hr;exact BJ.l' s.n hX.tt hw hp (Ur hp hb) hk
  unfold fU at h;split at h
  ·rename_i fop args tys ho
   split at h<;>try(cases h;done)
   rename_i f first captured hf
   split at h
   ·rename_i hn
    cases h;exact BJ.nat hw ho hf rfl (hX.nat _ _ _ hn) hk
   refine zV hw ho hf rfl (hcl _ _ _ _ _ _ _ h) λd1 H1 n1 hΦ=>?_
   obtain⟨rfl,rfl,rfl⟩:=hΦ;exact hk
  ·rename_i r name args tys ho
   split at h<;>try(cases h;done)
   rename_i t d0 hr;split at h<;>try(cases h;done)
   rename_i f hf;refine zX hw ho hr (hX.mt _ _ _ hf) rfl (hcl _ _ _ _ _ _ _ h) λd1 H1 n1 hΦ=>?_
   obtain⟨rfl,rfl,rfl⟩:=hΦ;exact hk
  ·split at h<;>try(cases h;done)
   rename_i hp;obtain⟨hb,hr⟩:=LE h;cases hr;exact gE s.n hX.tt hw hp (Uq hp hb) hk
  ·split at h<;>try(cases h;done)
   rename_i hp;obtain⟨hb,hr⟩:=LE h;cases hr;exact gG s.n hX.tt hw hp (vF hp hb) hk
  ·split at h<;>try(cases h;done)
   rename_i hp;obtain⟨hb,hr⟩:=LE h;cases hr;exact BJ.store hX.tt hw hp (bN hp hb) hk
  ·exact le _ h rfl
  ·exact le _ h rfl
  ·exact le _ h rfl
  ·exact le _ h rfl
  ·rename_i t x ix ho
   unfold KM at h;split at h
   ·rename_i hr;cases h;exact pe hr
   ·split at h<;>try(cases h;done)
    rename_i hi;cases h;obtain⟨i,e,esz,eby,ez,kk,j,nn,es,d',a1,a2,a3,a4,a5,a6,rfl⟩:=Xf hi;exact BJ.idx hX.tt hw ho a1 a2 a3 a4 a5 a6 hk
  ·exact qe h
  ·exact qe h
  ·unfold KM at h
   split at h
   ·rename_i hr;cases h;exact pe hr
   ·exact qe h
  ·exact pe h
 ·rename_i hw
  cases h;exact BJ.skip hw hk
theorem Qa (hX:FM C X)(hcl:Ma C cl){K:St->Prop}:∀ {os:List Oper} {s s':St},Lq X cl ops os s=some s'->K s'->BJ C F ops os s K
 | [],s,s',h,hk=>by
  simp only[Lq,BM]at h;subst h;exact BJ.nil hk
 |o::os,s,s',h,hk=>by
  simp only[Lq]at h;split at h<;>try(cases h;done)
  rename_i hs;rw[Mt,Lf]at h;exact jl hX hcl hs (Qa hX hcl h hk)
theorem CP.l' {H:Hp}{g:Nat}{env:Ar}{o:Oper}{tt:Nat->Option A0}(k:Nat)(htt:Cr C.P tt){d:D}{ne:Option Ay}{p:Prop}(hw:CD ops env o=some true)(he:EO tt H g k (BI env) o.op=some (d,ne,p))(hp:p):CP C F ops H g env o d ne:=by
 refine⟨λe h=>by subst h;exact Yp he,λHe ρ a w m hsub fr hne hr=>.inr ⟨IB hr hw,.inl ?_⟩⟩;obtain⟨g',h1,h2⟩:=Iq hr;obtain⟨v,ρ',w',r1,r2⟩:=Z0 (g:=g') hsub htt m fr hne h2 (by rw[<-jg h1];exact he) hp;exact⟨v,ρ',w',r1,r2⟩
theorem ji {tt:Nat->Option A0}{xt:Nat->Option XI}{g g':Operand->D}{op:Op}(h:∀x∈op.operands,g x=g' x):F8 tt xt g op=F8 tt xt g' op:=by
 cases op<;>simp only[Op.operands]at h<;>try rfl
 case binOp op t x y yt=>simp only[F8];rw[h x (by simp),h y (by simp)]
 case makeInterface t x=>simp only[F8];rw[h x (by simp)]
 case lookup t x ix ok=>simp only[F8];rw[h x (by simp),h ix (by simp)]
theorem CP.q {H:Hp}{g:Nat}{env:Ar}{o:Oper}{tt:Nat->Option A0}{xt:Nat->Option XI}(htt:Cr C.P tt)(hxt:L4 C.P xt){d:D}{p:Prop}(hw:CD ops env o=some true)(he:F8 tt xt (BI env) o.op=some (d,p))(hp:p):
  CP C F ops H g env o d none:=by
 refine⟨by simp,λHe ρ a w m _ _ _ hr=>.inr ⟨IB hr hw,.inl ?_⟩⟩;obtain⟨g',h1,h2⟩:=Iq hr;obtain⟨v,r1,r2⟩:=Z3 (g:=g') htt hxt h2 (by rw[<-ji h1];exact he) hp;exact⟨v,ρ,w,r1,m,.refl _ _ _,λ_ _ _=>rfl,r2⟩
def NO (b:Bool)(r:D×Option Ay):Option (D×Option Ay):=match b with
 |true=>some r
 |false=>none
theorem QN {b:Bool}{r r':D×Option Ay}(h:NO b r=some r'):b=true/\r=r':=by
 cases b
 ·cases h
 ·cases h;exact⟨rfl,rfl⟩
def Pr (X:EV)(g:Operand->D)(op:Op):Option (D×Option Ay):=match Gf X.tt g op with
 |some (d,_)=>NO (MH X.tt g op) (d,none)
 |none=>none
def Sg (X:EV)(g:Operand->D)(op:Op):Option (D×Option Ay):=match F8 X.tt X.xt g op with
 |some (d,_)=>NO (Sc X.xt g op) (d,none)
 |none=>none
def ff (X:EV)(cp:Hm)(g:Operand->D)(H:Hp)(n:Nat)(op:Op):Option (D×Option Ay):=match op with
 | .call ⟨.value fop,args,_⟩=>match g fop with
  | .clo (.func f) first captured=>match X.nat f (first++args.toList.map g++captured)with
   |some d=>some (d,none)
   |none=>match cp f (first++args.toList.map g++captured)with
    |some d=>some (d,none)
    |none=>none
  |_=>none
 | .call ⟨.builtin .append,_,_⟩=>match EG X.tt [] n n g op with
  |some (d,[e],_)=>NO (Pp X.tt [] g op) (d,some e)
  |_=>none
 | .load _ _ | .alloc _ | .box _ _ | .buildSlice _ _ _=>match EO X.tt H n n g op with
  |some (d,ne,_)=>NO (Jy X.tt H g op) (d,ne)
  |none=>none
 | .indexAddr t x ix=>KM (Pr X g op) (match R8 X.tt g t x ix with
  |some d=>some (d,none)
  |none=>none)
 | .makeInterface _ _ | .lookup _ _ _ _=>Sg X g op
 | .binOp _ _ _ _ _=>KM (Pr X g op) (Sg X g op)
 |_=>Pr X g op
def Ou (X:EV)(cp:Hm)(ops:Array Oper)(H:Hp)(n:Nat)(env:Ar)(o:Oper):Option (D×Option Ay):=match CD ops env o with
 |some true=>ff X cp (NN env) H n o.op
 |some false=>some (.prim (.tuple #[]),none)
 |none=>none
theorem TS (hX:FM C X)(hcp:La C cp){H:Hp}{n:Nat}{env:Ar}{o:Oper}{d:D}{ne:Option Ay}(h:Ou X cp ops H n env o=some (d,ne)):CP C F ops H n env o d ne:=by
 unfold Ou at h;rw[OW]at h;split at h<;>try(cases h;done)
 ·rename_i hw
  have pe:Pr X (BI env) o.op=some (d,ne)->CP C F ops H n env o d ne:=λh=>by
   unfold Pr at h;split at h<;>try(cases h;done)
   rename_i hp;obtain⟨hb,hr⟩:=QN h;cases hr;exact CP.p hX.tt hw hp (bK hp hb)
  have qe:Sg X (BI env) o.op=some (d,ne)->CP C F ops H n env o d ne:=λh=>by
   unfold Sg at h;split at h<;>try(cases h;done)
   rename_i hp;obtain⟨hb,hr⟩:=QN h;cases hr;exact CP.q hX.tt hX.xt hw hp (bM hp hb)
  have le:∀r,(match EO X.tt H n n (BI env) o.op with
    |some (d,ne,_)=>NO (Jy X.tt H (BI env) o.op) (d,ne)
    |none=>none)=some r->r=(d,ne)->CP C F ops H n env o d ne:=λr h hr=>by
   split at h<;>try(cases h;done)
   rename_i hp;obtain⟨hb,hr'⟩:=QN h;rw[<-hr']at hr;cases hr;exact CP.l' n hX.tt hw hp (Ur hp hb)
  unfold ff at h;split at h
  ·rename_i fop args tys ho
   split at h<;>try(cases h;done)
   rename_i f first captured hf
   split at h
   ·rename_i hn
    cases h;exact CP.nat hw ho hf rfl (hX.nat _ _ _ hn)
   split at h<;>try(cases h;done)
   rename_i hc;cases h;obtain⟨c1,c2⟩:=hcp _ _ _ hc;exact CP.call hw ho hf rfl c1 c2
  ·split at h<;>try(cases h;done)
   rename_i hp;obtain⟨hb,hr⟩:=QN h;cases hr;exact gJ n hX.tt hw hp (Uq hp hb)
  ·exact le _ h rfl
  ·exact le _ h rfl
  ·exact le _ h rfl
  ·exact le _ h rfl
  ·rename_i t x ix ho
   unfold KM at h;split at h
   ·rename_i hr;cases h;exact pe hr
   ·split at h<;>try(cases h;done)
    rename_i hi;cases h;obtain⟨i,e,esz,eby,ez,kk,j,nn,es,d',a1,a2,a3,a4,a5,a6,rfl⟩:=Xf hi;exact CP.idx hX.tt hw ho a1 a2 a3 a4 a5 a6
  ·exact qe h
  ·exact qe h
  ·unfold KM at h
   split at h
   ·rename_i hr;cases h;exact pe hr
   ·exact qe h
  ·exact pe h
 ·rename_i hw
  cases h;exact CP.skip hw
def M5 (X:EV)(cp:Hm)(ops:Array Oper)(H:Hp)(n:Nat):List Nat->Ar->Hp->Option (Ar×Hp)
 | [],env,N=>some (env,N)
 |i::l,env,N=>match ops[i]? with
  |some o=>match Ou X cp ops H (n+i) env o with
   |some (d,ne)=>Nk d λd=>M5 X cp ops H n l (Bb env o.dst d) (Cz ne N)
   |none=>none
  |none=>none
theorem YO (hX:FM C X)(hcp:La C cp){H:Hp}{n:Nat}:∀ {l:List Nat} {env env':Ar} {N N':Hp},M5 X cp ops H n l env N=some (env',N')->Ii C F ops H n l env N env' N'
 | [],env,env',N,N',h=>by
  simp only[M5,BM,Bh]at h;obtain⟨rfl,rfl⟩:=h;exact .nil _ _
 |i::l,env,env',N,N',h=>by
  simp only[M5]at h;split at h<;>try(cases h;done)
  rename_i o ho;split at h<;>try(cases h;done)
  rename_i d ne hs;rw[Mt]at h;exact .cons ho (TS hX hcp hs) (YO hX hcp h)
def XM (ops:Array Oper)(done:List Nat):List Nat->Option (Nat×List Nat)
 | []=>none
 |i::r=>match Iw (GH ops i) done with
  |true=>some (i,r)
  |false=>match XM ops done r with
   |some (j,r')=>some (j,i::r')
   |none=>none
def Vf (ops:Array Oper):Nat->List Nat->List Nat->List Nat
 | 0,done,rest=>done.reverse++rest
 |f+1,done,rest=>match XM ops done rest with
  |some (i,rest')=>Vf ops f (i::done) rest'
  |none=>done.reverse++rest
def Um (clo:List (Nat×List Nat)):List Nat->List Nat->List Nat->List Nat->List Nat×List Nat
 |_,[],pre,cur=>(pre.reverse,cur.reverse)
 |done,i::l,pre,cur=>match Iw done (Fd clo i)with
  |true=>Um clo (i::done) l pre (i::cur)
  |false=>Um clo (i::done) l (i::(cur++pre)) []
def xi (ops:Array Oper):List Nat×List Nat:=
 Um (I6 ops (Vf ops ops.size [] (List.range ops.size)) []) [] (Vf ops ops.size [] (List.range ops.size)) [] []
def ym:Op->Bool
 | .store _ _ _=>true
 | .call ⟨.builtin .append,_,_⟩=>true
 |_=>false
def dS (ops:Array Oper):List Nat->Option Nat
 | []=>none
 |i::l=>match ops[i]? with
  |some o=>match ym o.op with
   |true=>some i
   |false=>dS ops l
  |none=>none
def fh (i:Nat):List Nat->List Nat
 | []=>[]
 |j::l=>match Nat.beq i j with
  |true=>[]
  |false=>j::fh i l
def xc (g:Operand->D):Op->Option Nat
 | .store _ x _=>match g x with
  | .optr k _ _ _ _=>some k
  |_=>none
 | .call ⟨.builtin .append,args,_⟩=>match args.toList with
  | [s,_]=>match g s with
   | .osl k _ _ _ _=>some k
   |_=>none
  |_=>none
 |_=>none
def VT (X:EV)(e:Ay)(n:Nat)(g:Operand->D)(op:Op):Option (D×Ay):=match op with
 | .store _ _ _=>match FD X.tt [e] g op with
  |some (_,e',_)=>match Sd X.tt [e] g op with
   |true=>some (.prim (.tuple #[]),e')
   |false=>none
  |none=>none
 |_=>match EG X.tt [e] n n g op with
  |some (d,[e'],_)=>match Pp X.tt [e] g op with
   |true=>some (d,e')
   |false=>none
  |_=>none
def IV (ia:Option Nat)(i:Nat):Bool:=match ia with
 |some j=>Nat.beq i j
 |none=>false
def Ho (ia:Option Nat)(accE:Option Ay)(R:Hp)(b:Bool):Hp:=match ia with
 |none=>match accE with
  |some e=>match b with
   |true=>e::R
   |false=>R
  |none=>R
 |some _=>R
def Iv (X:EV)(cp:Hm)(ops:Array Oper)(iw:Nat)(ia:Option Nat)(R:Hp)(clo:List Nat)(n:Nat):List Nat->Ar->Hp->Option Ay->Option Ay->Option (Ar×Hp×Ay×Ay)
 | [],env,N,accE,acc=>match accE with
  |some e=>match acc with
   |some e'=>some (env,N,e,e')
   |none=>none
  |none=>none
 |i::l,env,N,accE,acc=>match ops[i]? with
  |some o=>match Nat.beq i iw with
   |true=>match acc with
    |some _=>none
    |none=>match accE with
     |some e=>match CD ops env o with
      |some true=>match VT X e (n+i) (NN env) o.op with
       |some (d,e')=>Iv X cp ops iw ia R clo n l (Bb env o.dst d) N accE (some e')
       |none=>none
      |_=>none
     |none=>none
   |false=>match IV ia i with
    |true=>match accE with
     |some _=>none
     |none=>match Ou X cp ops R (n+i) env o with
      |some (d,some e)=>Nk d λd=>Iv X cp ops iw ia R clo n l (Bb env o.dst d) N (some e) acc
      |_=>none
    |false=>match Ou X cp ops (Ho ia accE R (Ca i clo)) (n+i) env o with
     |some (d,ne)=>Nk d λd=>Iv X cp ops iw ia R clo n l (Bb env o.dst d) (Cz ne N) accE acc
     |none=>none
  |none=>none
theorem LI {iw:Nat}{ia:Option Nat}{R:Hp}{clo:List Nat}{n:Nat}:∀ {l:List Nat} {env env':Ar} {N N':Hp} {accE acc:Option Ay} {e e':Ay},Iv X cp ops iw ia R clo n l env N accE acc=some (env',N',e,e') ->
  (∀a,accE=some a->e=a)/\(∀a,acc=some a->e'=a)
 | [],_,_,_,_,_,_,_,_,h=>by
  simp only[Iv]at h;split at h<;>try(cases h;done)
  split at h<;>try(cases h;done)
  simp only[BM,Bh]at h;exact⟨λa ha=>by cases ha;exact h.2.2.1.symm,λa ha=>by cases ha;exact h.2.2.2.symm⟩
 |i::l,_,_,_,_,_,_,_,_,h=>by
  simp only[Iv]at h;split at h<;>try(cases h;done)
  split at h
  ·split at h<;>try(cases h;done)
   split at h<;>try(cases h;done)
   split at h<;>try(cases h;done)
   split at h<;>try(cases h;done)
   exact⟨(LI h).1,by simp⟩
  ·split at h
   ·split at h<;>try(cases h;done)
    split at h<;>try(cases h;done)
    rw[Mt]at h;exact⟨by simp,(LI h).2⟩
   ·split at h<;>try(cases h;done)
    rw[Mt]at h;exact LI h
theorem o8 (hX:FM C X){W:WR}{n:Nat}{env:Ar}{o:Oper}{d:D}(hw:CD ops env o=some true)(h:VT X W.e n (BI env) o.op=some (d,W.e')):J9 C F ops W n env o d:=by
 unfold VT at h;split at h
 ·split at h<;>try(cases h;done)
  rename_i he;split at h<;>try(cases h;done)
  rename_i hk;simp only[BM,Bh]at h;obtain⟨rfl,h2⟩:=h;rw[h2]at he;exact J9.store hX.tt hw he (bN he hk)
 ·split at h<;>try(cases h;done)
  rename_i he;split at h<;>try(cases h;done)
  rename_i hk;simp only[BM,Bh]at h;obtain⟨rfl,h2⟩:=h;rw[h2]at he;exact gL n hX.tt hw he (Uq he hk)
theorem Qd {ia:Option Nat}{i:Nat}:IV ia i=true↔ia=some i:=by
 cases ia with
 |none=>simp[IV]
 |some j=>
  simp only[IV,BM];exact⟨λh=>(B5 h).symm,λh=>by rw[h];exact NZ _⟩
theorem QL (hX:FM C X)(hcp:La C cp){W:WR}(hwa:W.ia≠some W.iw){clo:List Nat}(hclo:∀j∈clo,EA ops W.iw j){n:Nat}:∀ {l:List Nat} {env env':Ar} {N N':Hp} {accE acc:Option Ay},
  Iv X cp ops W.iw W.ia W.R clo n l env N accE acc=some (env',N',W.e,W.e')->IT C F ops W n l env N env' N'
 | [],env,env',N,N',accE,acc,h=>by
  simp only[Iv]at h;split at h<;>try(cases h;done)
  split at h<;>try(cases h;done)
  simp only[BM,Bh]at h;obtain⟨rfl,rfl,_⟩:=h;exact .nil _ _
 |i::l,env,env',N,N',accE,acc,h=>by
  simp only[Iv,OW]at h;split at h<;>try(cases h;done)
  rename_i o ho;split at h
  ·rename_i hb
   have hb:=B5 hb;split at h<;>try(cases h;done)
   split at h<;>try(cases h;done)
   rename_i e0;split at h<;>try(cases h;done)
   rename_i hw;split at h<;>try(cases h;done)
   rename_i d e1 he;obtain⟨h1,h2⟩:=LI h;rw[<-h1 _ rfl,<-h2 _ rfl]at he;exact .cons (ne:=none) ho (.inr (.inl ⟨hb,by rw[hb];exact hwa,rfl,o8 hX hw he⟩)) (QL hX hcp hwa hclo h)
  ·rename_i hb
   have hne:i≠W.iw:=λhi=>by rw[hi,NZ]at hb;cases hb
   split at h
   ·rename_i hi
    have hi:=Qd.1 hi;split at h<;>try(cases h;done)
    split at h<;>try(cases h;done)
    rename_i d e0 hs;rw[Mt]at h;have h1:=(LI h).1 _ rfl;rw[<-h1]at hs;exact .cons (ne:=none) ho (.inr (.inr ⟨hne,hi,rfl,TS (F:=F) hX hcp hs⟩)) (QL hX hcp hwa hclo h)
   ·rename_i hi
    have hi:W.ia≠some i:=λh=>by rw[Qd.2 h]at hi;cases hi
    split at h<;>try(cases h;done)
    rename_i d ne hs;rw[Mt]at h;have hacc:=(LI h).1;refine .cons ho (.inl ⟨hne,hi,?_⟩) (QL hX hcp hwa hclo h);have hst:=TS (F:=F) hX hcp hs;unfold Ho at hst;cases hia:W.ia with
    |none=>
     rw[hia]at hst;cases accE with
     |none=>exact .inr hst
     |some a=>
      have:=hacc a rfl
      subst this;dsimp only at hst;cases hm:Ca i clo with
      |true=>rw[hm]at hst;exact .inl ⟨rfl,hclo i (Hg.1 hm),hst⟩
      |false=>rw[hm]at hst;exact .inr hst
    |some ia=>rw[hia]at hst;exact .inr hst
def dE (s:St)(N1:Hp)(k:Nat):Option (Option Nat×Option Ay×Hp):=match Hp.get s.H k with
 |some e=>some (none,some e,Hp.del s.H k)
 |none=>match Hp.get N1 k with
  |some e=>some (some (e.g-s.n),none,s.H)
  |none=>none
def fW (n:Nat)(pre clo:List Nat)(e:Ay)(iw:Nat):Option Nat->Bool
 |none=>true
 |some ia=>Nat.beq e.g (n+ia)&&Ca ia clo&&Ca ia pre && !(Nat.beq ia iw)
def Y7 (X:EV)(cl:IP)(cp:Hm)(ops:Array Oper)(pre suf:List Nat)(iw:Nat)(s:St):Option St:=match M5 X cp ops s.H s.n (fh iw pre) s.env []with
 |some (env1,N1)=>match xc (NN env1) (ops.getD iw default).op with
  |some k=>match dE s N1 k with
   |some (ia,accE,R)=>match Ca iw pre with
    |true=>match Iv X cp ops iw ia R (Fd (I6 ops (pre++suf) []) iw) s.n pre s.env [] accE none with
     |some (env,N,e,e')=>match (Nat.beq e'.g e.g||Nat.beq e'.g (s.n+iw))&&fW s.n pre (Fd (I6 ops (pre++suf) []) iw) e iw ia with
      |true=>G1 (s.n+ops.size) λn=>Lq X cl ops (suf.map λj=>ops.getD j default) ⟨env,N++e'::R,n⟩
      |false=>none
     |none=>none
    |false=>none
   |none=>none
  |none=>none
 |none=>none
def Ug (X:EV)(cl:IP)(cp:Hm)(ops:Array Oper)(s:St):Option St:=match xi ops with
 |(pre,suf)=>match Hu ops pre suf with
  |true=>match (match dS ops pre with
    |some iw=>Y7 X cl cp ops pre suf iw s
    |none=>none)with
   |some s'=>some s'
   |none=>match M5 X cp ops s.H s.n pre s.env []with
    |some (env,N)=>G1 (s.n+ops.size) λn=>Lq X cl ops (suf.map λj=>ops.getD j default) ⟨env,N++s.H,n⟩
    |none=>none
  |false=>none
noncomputable def dd (e:Ar):List Nat->Ar:=List.rec (motive:=λ_=>List Nat->Ar) (λ_=>[]) (λp _ ih seen=>Bool.rec (motive:=λ_=>Ar) (p::ih (p.1::seen)) (ih seen) (SA p.1 seen)) e
theorem nv (k:Nat)(d:D)(r:Ar)(seen:List Nat):dd ((k,d)::r) seen=match Ca k seen with
  |true=>dd r seen
  |false=>(k,d)::dd r (k::seen):=by
 show Bool.rec (motive:=λ_=>Ar) _ _ (SA k seen)=_;rw[Y8];cases Ca k seen<;>rfl
theorem Uc:∀(e:Ar) (seen:List Nat) (t:Nat),t∉seen->(dd e seen).get t=e.get t
 | [],_,_,_=>rfl
 |(k,d)::r,seen,t,h=>by
  rw[nv];cases hb:Ca k seen with
  |true=>
   dsimp only;have hk:k≠t:=λhk=>h (hk ▸ Hg.1 hb)
   rw[Uc r seen t h,IY,AF hk]
  |false=>
   dsimp only;rw[IY,IY]
   by_cases hk:k=t
   ·rw[AG hk,AG hk]
   ·rw[AF hk,AF hk,Uc r (k::seen) t (by simp;exact⟨λh=>hk h.symm,h⟩)]
def NQ (f:D->List Nat->List Nat):List D->List Nat->List Nat
 | [],acc=>acc
 |d::l,acc=>NQ f l (f d acc)
def Jl:Nat->D->List Nat->List Nat
 | 0,_,acc=>acc
 |n+1,d,acc=>match d with
  | .osl k _ _ _ _=>k::acc
  | .optr k _ _ _ _=>k::acc
  | .agg l=>NQ (Jl n) l acc
  | .tup l=>NQ (Jl n) l acc
  | .clo _ a b=>NQ (Jl n) a (NQ (Jl n) b acc)
  | .gd _ d=>Jl n d acc
  | .ifc _ d=>Jl n d acc
  |_=>acc
def bV:Ar->List Nat->List Nat
 | [],acc=>acc
 |(_,d)::r,acc=>bV r (Jl 5 d acc)
def Ru:Hp->List Nat->List Nat
 | [],acc=>acc
 |e::r,acc=>Ru r (NQ (Jl 5) e.es acc)
def Ka (p:Ay->Bool):Hp->Hp
 | []=>[]
 |e::r=>match p e with
  |true=>e::Ka p r
  |false=>Ka p r
theorem QO (p:Ay->Bool):∀H:Hp,(Ka p H).Sublist H
 | []=>.slnil
 |e::r=>by
  simp only[Ka];split
  ·exact(QO p r).cons_cons e
  ·exact(QO p r).cons e
def NM {α:Type}:List Nat->(List Nat->α)->α
 | [],k=>k []
 |n::l,k=>G1 n λn=>NM l λl=>k (n::l)
theorem Q1 {α:Type}:∀(l:List Nat) (k:List Nat->α),NM l k=k l
 | [],_=>rfl
 |n::l,k=>by simp only[NM,Lf,Q1 l]
def PS {α:Type}:Hp->(Hp->α)->α
 | [],k=>k []
 |e::l,k=>PS l λl=>k (e::l)
theorem T1 {α:Type}:∀(l:Hp) (k:Hp->α),PS l k=k l
 | [],_=>rfl
 |e::l,k=>by simp only[PS,T1 l]
def Vp {α:Type}(n:Nat)(env:Ar)(H:Hp)(k:Hp->α):α:=NM (Ru H (bV env [])) λks=>PS (Ka (λe=>match Nat.blt e.g n with
  |true=>true
  |false=>Ca e.k ks) H) k
theorem ui {α:Type}(n:Nat)(env:Ar)(H:Hp)(k:Hp->α):∃H':Hp,H'.Sublist H/\Vp n env H k=k H':=⟨_,QO _ _,by unfold Vp;rw[Q1,T1]⟩
def Vq {α:Type}(n:Nat)(d:D)(H:Hp)(k:Hp->α):α:=
 NM (Ru (Ka (λe=>Nat.blt e.g n) H) (Jl 5 d [])) λks=>NM (Ru (Ka (λe=>Ca e.k ks) H) ks) λks=>PS (Ka (λe=>match Nat.blt e.g n with
  |true=>true
  |false=>Ca e.k ks) H) k
theorem uj {α:Type}(n:Nat)(d:D)(H:Hp)(k:Hp->α):∃H':Hp,H'.Sublist H/\Vq n d H k=k H':=⟨_,QO _ _,by unfold Vq;rw[Q1,Q1,T1]⟩
def O4 (f:St->Option (Exit×St))(n0:Nat):Nat->St->Option (Exit×St)
 | 0,_=>none
 |k+1,s=>Vp n0 s.env s.H λH=>match f ⟨dd s.env [],H,s.n⟩with
  |some (.normal,s')=>O4 f n0 k s'
  |r=>r
def Dx (X:EV)(cl:IP)(cp:Hm)(lf:Nat):Code->St->Option (Exit×St)
 | .skip,s=>some (.normal,s)
 | .region _ ops draw,s=>match draw with
  |true=>match Ug X cl cp ops s with
   |some s'=>some (.normal,s')
   |none=>none
  |false=>match Lq X cl ops ops.toList s with
   |some s'=>some (.normal,s')
   |none=>none
 | .seq a b,s=>match Dx X cl cp lf a s with
  |some (.normal,s')=>Dx X cl cp lf b s'
  |r=>r
 | .cond c a b,s=>match NN s.env c with
  | .prim (.bool true)=>Dx X cl cp lf a s
  | .prim (.bool false)=>Dx X cl cp lf b s
  |_=>none
 | .block i b,s=>match Dx X cl cp lf b s with
  |some (.exit j,s')=>match Nat.beq j i with
   |true=>some (.normal,s')
   |false=>some (.exit j,s')
  |r=>r
 | .loop b,s=>O4 (Dx X cl cp lf b) (lf/1048576) (lf%1048576) s
 | .exit i,s=>some (.exit i,s)
 | .ret,s=>some (.ret,s)
 |_,_=>none
def isS (e:Exit)(s:St):Exit->St->Prop:=λe1 s1=>e1=e/\s1=s
theorem zT {c:Code}{s s2:St}{Q:Exit->St->Prop}(he:∀t,s2.env.get t=s.env.get t)(hH:s2.H=s.H)(hn:s2.n=s.n)(h:Ok C F c s2 Q):Ok C F c s Q:=
 λhd ρ a w hs=>h hd ρ a w ⟨by rw[hH];exact hs.mem,by rw[hn];exact hs.fresh,by rw[hH,hn];exact hs.gen,λt=>by rw[he,hH];exact hs.env t,hs.nt,hs.dfr⟩
theorem Ok.subH {c:Code}{env:Ar}{H H':Hp}{n:Nat}{Q:Exit->St->Prop}(hs:H'.Sublist H)(h:Ok C F c ⟨env,H',n⟩ Q):Ok C F c ⟨env,H,n⟩ Q:=
 λhd ρ a w hS=>by
  obtain⟨m,hO⟩:=hS.mem.sub hs;exact h hd ρ a w ⟨m,hS.fresh,λe he=>hS.gen e (hs.subset he),λt=>(hS.env t).anti hO,hS.nt,hS.dfr⟩
theorem Cd.subH {f:Nat}{ds:List D}{H H1 H2:Hp}{n n':Nat}{d:D}(hs:H2.Sublist H1)(h:Cd C f ds H n (Sa d H1 n')):Cd C f ds H n (Sa d H2 n'):=by
 refine⟨h.1,λF ρ w vs m hfr hg hvs hr=>(h.2 F ρ w vs m hfr hg hvs hr).mono ?_⟩;rintro e w' ⟨v,d',H',n2,ρ',rfl,⟨rfl,rfl,rfl⟩,m',x,fr,gn,rep⟩;obtain⟨m2,hO⟩:=m'.sub hs;exact⟨v,_,_,_,ρ',rfl,⟨rfl,rfl,rfl⟩,m2,⟨x.size,x.link,λb hb hb'=>⟨λh=>(x.pure b hb hb').1 (hO b h),(x.pure b hb hb').2⟩,x.shape⟩,fr,λe he=>gn e (hs.subset he),rep.anti hO⟩
theorem jf (hX:FM C X)(hcl:Ma C cl)(hcp:La C cp){i:Nat}{s s':St}(h:Ug X cl cp ops s=some s'):Ok C F (.region i ops true) s (isS .normal s'):=by
 unfold Ug at h;split at h;rename_i pre suf ho;split at h<;>try(cases h;done)
 rename_i hc;split at h
 ·rename_i s1 hh
  cases h
  revert hh
  intro h;split at h<;>try(cases h;done)
  rename_i iw _;unfold Y7 at h;simp only[OW]at h;split at h<;>try(cases h;done)
  split at h<;>try(cases h;done)
  split at h<;>try(cases h;done)
  rename_i k _ ia accE R hwb;split at h<;>try(cases h;done)
  rename_i hm;split at h<;>try(cases h;done)
  rename_i env N e e' hp;split at h<;>try(cases h;done)
  rename_i hg;rw[Lf]at h;simp only[BR,Jr]at hg;obtain⟨hg1,hg2⟩:=hg;have hreach:∀j∈Fd (I6 ops (pre++suf) []) iw,EA ops iw j:=λj hj=>P1 (P7 _ _ (by simp)) _ _ hj
  have hia:∀j,ia=some j->e.g=s.n+j/\EA ops iw j/\j∈pre/\j≠iw:=λj hj=>by
   subst hj;simp only[fW,BR,Bj]at hg2;exact⟨B5 hg2.1.1.1,hreach j (Hg.1 hg2.1.1.2),Hg.1 hg2.1.2,λh=>by rw[h,NZ]at hg2;cases hg2.2⟩
  have hacc:=(LI hp).1;have hst:s.H.Perm (WR.start ⟨iw,ia,e,e',R⟩):=by
   unfold dE at hwb;split at hwb
   ·rename_i e0 he
    cases hwb;obtain⟨H1,H2,q1,_,q3⟩:=MB e0 he;rw[q3,hacc e0 rfl];unfold WR.start;rw[q1];exact HO
   ·split at hwb<;>try(cases hwb;done)
    cases hwb;exact List.Perm.refl _
  exact zS (W:=⟨iw,ia,e,e',R⟩) hX.mixed hc hst (λj hj=>⟨(hia j hj).1,(hia j hj).2.1,(hia j hj).2.2.1⟩) (Hg.1 hm) (hg1.imp B5 B5)
   (QL (W:=⟨iw,ia,e,e',R⟩) hX hcp (λh=>(hia iw h).2.2.2 rfl) hreach hp) (Qa hX hcl h ⟨rfl,rfl⟩)
 ·split at h<;>try(cases h;done)
  rename_i env N hp;rw[Lf]at h;exact zR hX.mixed hc (YO hX hcp hp) (Qa hX hcl h ⟨rfl,rfl⟩)
theorem IA (hX:FM C X)(hcl:Ma C cl)(hcp:La C cp){lf:Nat}:∀ {c:Code} {s s':St} {e:Exit},Dx X cl cp lf c s=some (e,s')->Ok C F c s (isS e s')
 | .skip,s,s',e,h=>by simp only[Dx,BM,Bh]at h;obtain⟨rfl,rfl⟩:=h;exact Ok.skip ⟨rfl,rfl⟩
 | .region i ops draw,s,s',e,h=>by
  simp only[Dx]at h;split at h
  ·split at h<;>try(cases h;done)
   rename_i hd;cases h;exact jf hX hcl hcp hd
  ·split at h<;>try(cases h;done)
   rename_i hd;cases h;exact Ok.region (Qa hX hcl hd ⟨rfl,rfl⟩)
 | .seq a b,s,s',e,h=>by
  simp only[Dx]at h;refine Ok.seq ?_;split at h
  ·rename_i s1 h1
   refine(IA hX hcl hcp h1).mono ?_;rintro _ _ ⟨rfl,rfl⟩;exact IA hX hcl hcp h
  ·rename_i hne
   refine(IA hX hcl hcp h).mono ?_;rintro e1 s1 ⟨h1,h2⟩;rw[h1,h2];cases e with
   |normal=>exact Ad h (hne _)
   |_=>exact⟨rfl,rfl⟩
 | .cond c a b,s,s',e,h=>by
  simp only[Dx,OW]at h;have hr:∀x,BI s.env c=.prim (.bool x)->∀ρ a w,Bl C F ρ s a w->a.eval c=.bool x:=λx hx ρ a w hs=>by
   have:=DL hs.env c
   rw[hx]at this;generalize a.eval c=v at this;cases this;rfl
  split at h
  ·rename_i hx
   exact Ok.cond true (hr _ hx) (λ_=>IA hX hcl hcp h) (λh=>by cases h)
  ·rename_i hx
   exact Ok.cond false (hr _ hx) (λh=>by cases h) (λ_=>IA hX hcl hcp h)
  ·cases h
 | .block i b,s,s',e,h=>by
  simp only[Dx]at h;refine Ok.block ?_;split at h
  ·rename_i j s1 h1
   refine(IA hX hcl hcp h1).mono ?_;rintro _ _ ⟨rfl,rfl⟩;dsimp only;split at h
   ·rename_i hb
    cases h;rw[AG (B5 hb)];exact⟨rfl,rfl⟩
   ·rename_i hb
    cases h;rw[AF (λhj=>by rw[hj,NZ]at hb;cases hb)];exact⟨rfl,rfl⟩
  ·rename_i hne
   refine(IA hX hcl hcp h).mono ?_;rintro e1 s1 ⟨h1,h2⟩;rw[h1,h2];cases e with
   |exit j=>exact Ad h (hne _ _)
   |_=>exact⟨rfl,rfl⟩
 | .loop b,s,s',e,h=>by
  simp only[Dx]at h;refine Ok.loop (λm s=>O4 (Dx X cl cp lf b) (lf/1048576) m s=some (e,s')) h λm s1 hI=>?_
  cases m with
  |zero=>cases hI
  |succ m=>
   simp only[O4]at hI;obtain⟨H2,hsub,hgc⟩:=ui (α:=Option (Exit×St)) (lf/1048576) s1.env s1.H (λH=>match Dx X cl cp lf b ⟨dd s1.env [],H,s1.n⟩with
    |some (.normal,s')=>O4 (Dx X cl cp lf b) (lf/1048576) m s'
    |r=>r)
   rw[hgc]at hI;refine zT (s2:=⟨dd s1.env [],s1.H,s1.n⟩) (λt=>Uc _ _ _ (by simp)) rfl rfl ?_;refine Ok.subH hsub ?_;split at hI
   ·rename_i s2 h2
    refine(IA hX hcl hcp h2).mono ?_;rintro _ _ ⟨rfl,rfl⟩;exact⟨m,HQ m,hI⟩
   ·rename_i hne
    refine(IA hX hcl hcp hI).mono ?_;rintro e1 s1 ⟨h1,h2⟩;rw[h1,h2];cases e with
    |normal=>exact Ad hI (hne _)
    |_=>exact⟨rfl,rfl⟩
 | .exit i,s,s',e,h=>by simp only[Dx,BM,Bh]at h;obtain⟨rfl,rfl⟩:=h;exact Ok.exit ⟨rfl,rfl⟩
 | .ret,s,s',e,h=>by simp only[Dx,BM,Bh]at h;obtain⟨rfl,rfl⟩:=h;exact Ok.ret ⟨rfl,rfl⟩
 | .rangeFunc ..,_,_,_,h=>by simp[Dx]at h
 | .scope _,_,_,_,h=>by simp[Dx]at h
 | .label _,_,_,_,h=>by simp[Dx]at h
 | .goto _,_,_,_,h=>by simp[Dx]at h
 | .refuse _,_,_,_,h=>by simp[Dx]at h
def okR (tt:Nat->Option A0)(s:St):List ResultVar->Bool
 | []=>true
 | .tmp _::r=>okR tt s r
 | .cell a t::r=>Jy tt s.H (λ_=>s.env.get a) (.load t (.tmp 0))&&okR tt s r
theorem RM {tt:Nat->Option A0}{s:St}:∀ {rs:List ResultVar} {l:List D} {p:Prop},JW tt s rs=some (l,p)->okR tt s rs=true->p
 | [],_,_,h,_=>by simp only[JW,BM,Bh]at h;obtain⟨_,rfl⟩:=h;trivial
 |r::rs,l,p,h,hk=>by
  simp only[JW]at h;split at h<;>try(cases h;done)
  rename_i d q h1;split at h<;>try(cases h;done)
  rename_i l' q' h2;cases h;cases r with
  |tmp t=>
   simp only[M2,BM,Bh]at h1;obtain⟨_,rfl⟩:=h1;exact⟨trivial,RM h2 hk⟩
  |cell a t=>
   simp only[okR,BR]at hk;simp only[M2]at h1;split at h1<;>try(cases h1;done)
   rename_i he;cases h1;exact⟨Ur he hk.1,RM h2 hk.2⟩
def Rs (tt:Nat->Option A0)(s:St)(rs:List ResultVar):Option (D×Hp×Nat):=match IW tt s rs with
 |some (d,_)=>Jj (okR tt s rs) (d,s.H,s.n)
 |none=>none
theorem YP {tt:Nat->Option A0}{s:St}{rs:List ResultVar}{d:D}{H:Hp}{n:Nat}(h:Rs tt s rs=some (d,H,n)):∃p,IW tt s rs=some (d,p)/\p/\H=s.H/\n=s.n:=by
 unfold Rs at h;split at h<;>try(cases h;done)
 rename_i d' p hr;obtain⟨hb,he⟩:=LE h;cases he;refine⟨p,hr,?_,rfl,rfl⟩;unfold IW at hr;split at hr<;>try(cases hr;done)
 ·rename_i ha;cases hr;exact RM ha hb
 ·rename_i ha;cases hr;exact RM ha hb
def Rv (X:EV)(cl:IP)(cp:Hm)(lf f:Nat)(ds:List D)(H:Hp)(n:Nat):Option (D×Hp×Nat):=match X.ft f with
 |some i=>match Nat.ble ds.length i.nt with
  |true=>match Dx X cl cp (lf+n*1048576) i.code ⟨DN 0 ds,H,n⟩with
   |some (.normal,s)=>Rs X.tt s i.res
   |some (.ret,s)=>Rs X.tt s i.res
   |_=>none
  |false=>none
 |none=>none
def RN (X:EV)(cl:IP)(cp:Hm)(lf f:Nat)(ds:List D):Option D:=match X.orc f ds with
 |some d=>some d
 |none=>match X.np f with
  |true=>none
  |false=>match Ht (HH 20) ds with
   |true=>match Rv X cl cp lf f ds [] 0 with
    |some (d,H,_)=>Nm 20 H d
    |none=>none
   |false=>none
def Ge (X:EV)(lf:Nat):Nat->Hm×IP
 | 0=>(λ_ _=>none,λ_ _ _ _=>none)
 |fu+1=>(RN X (Ge X lf fu).2 (Ge X lf fu).1 lf,λf ds H n=>match RN X (Ge X lf fu).2 (Ge X lf fu).1 lf f ds with
  |some d=>some (d,H,n+1)
  |none=>match Rv X (Ge X lf fu).2 (Ge X lf fu).1 lf f ds H n with
   |some (d,H',n')=>Vq n d H' λH2=>some (d,H2,n')
   |none=>none)
theorem YW (hX:FM C X){lf f:Nat}{ds:List D}{H H':Hp}{n n':Nat}{d:D}(h:Rv X cl cp lf f ds H n=some (d,H',n')):
  ∃fn i e s p,X.ft f=some i/\C.P.funcs[f]?=some fn/\fn.body=some i.code/\(fn.name == "runtime.NumGoroutine")=false/\DM fn.ntmps i.code=true/\Nat.ble ds.length fn.ntmps=true /\
   (e=.normal\/e=.ret)/\Dx X cl cp (lf+n*1048576) i.code ⟨DN 0 ds,H,n⟩=some (e,s)/\IW X.tt s fn.results.toList=some (d,p)/\p/\H'=s.H/\n'=s.n:=by
 unfold Rv at h;split at h<;>try(cases h;done)
 rename_i i hi;obtain⟨fn,a1,a2,a3,a4,a5,a6⟩:=hX.ft f i hi;split at h<;>try(cases h;done)
 rename_i hb;split at h<;>try(cases h;done)
 ·rename_i s hc
  obtain⟨p,b1,b2,b3,b4⟩:=YP h;exact⟨fn,i,.normal,s,p,hi,a1,a2,a3,a4,by rw[a5];exact hb,.inl rfl,hc,by rw[a6];exact b1,b2,b3,b4⟩
 ·rename_i s hc
  obtain⟨p,b1,b2,b3,b4⟩:=YP h;exact⟨fn,i,.ret,s,p,hi,a1,a2,a3,a4,by rw[a5];exact hb,.inr rfl,hc,by rw[a6];exact b1,b2,b3,b4⟩
theorem XN (hX:FM C X)(hcl:Ma C cl)(hcp:La C cp){lf f:Nat}{ds:List D}{d:D}(h:RN X cl cp lf f ds=some d):AK C f ds d/\Aj ds:=by
 unfold RN at h;split at h
 ·rename_i ho;cases h;exact hX.orc _ _ _ ho
 ·split at h<;>try(cases h;done)
  split at h<;>try(cases h;done)
  rename_i hp;split at h<;>try(cases h;done)
  rename_i d0 H0 n0 hr;obtain⟨fn,i,e,s,p,_,a1,a2,a3,a4,a5,a6,a7,a8,a9,rfl,rfl⟩:=YW hX hr;obtain⟨z1,z2⟩:=KW h;refine⟨Ak.intro hX.tt a1 a2 a3 a4 a5 λF=>(IA hX hcl hcp a7).mono ?_,⟨λx hx=>G9 (Ir hp x hx)⟩⟩;rintro _ _ ⟨rfl,rfl⟩;exact⟨a6,d0,p,a8,a9,d,z1,z2,rfl⟩
theorem Cd.ofPure {f:Nat}{ds:List D}{d:D}{H:Hp}{n:Nat}(h:AK C f ds d)(hp:Aj ds):Cd C f ds H n (Sa d H (n+1)):=by
 refine⟨h.1,λF ρ w vs m hfr hg hvs hr=>(h.2 (AN F.X ρ H) w vs m.g (BX m.gn m.size) (λb hb=>m.own_lt hb) hvs λi x hx=>hp.out x (Aw hx) _ _ _ _ _ (hr i x hx)).mono ?_⟩;rintro e w' ⟨v,d',rfl,hb,rfl,hrep⟩;have x:BW ρ (AN F.X ρ H) w ρ (AN F.X ρ H) w':=⟨hb.size,λ_ _ _ h=>h,λb hb' hO=>⟨hO,hb.block b hb'⟩,λb cs T fz hh=>⟨cs,_,by
  rw[hb.block b (Array.getElem?_eq_some_iff.1 hh).1];exact hh,rfl⟩⟩
 exact⟨v,_,_,_,ρ,rfl,⟨rfl,rfl,rfl⟩,m.same x hb.os hb.tape hb.output hb.block,x,λk g hg=>hfr k g (by omega),λe he=>DJ (hg e he),hrep.nol⟩
theorem Zz (hX:FM C X)(lf:Nat):∀fu,La C (Ge X lf fu).1/\Ma C (Ge X lf fu).2
 | 0=>⟨λ_ _ _ h=>by simp[Ge]at h,λ_ _ _ _ _ _ _ h=>by simp[Ge]at h⟩
 |fu+1=>by
  obtain⟨hcp,hcl⟩:=Zz hX lf fu;refine⟨λf ds d h=>XN hX hcl hcp h,λf ds H n d H' n' h=>?_⟩;simp only[Ge]at h;split at h
  ·rename_i d0 hp
   cases h;obtain⟨h1,h2⟩:=XN hX hcl hcp hp;exact .ofPure h1 h2
  ·split at h<;>try(cases h;done)
   rename_i d1 H1 n1 hrun;obtain⟨H2,hsub,hgc⟩:=uj (α:=Option (D×Hp×Nat)) n d1 H1 (λH2=>some (d1,H2,n1));rw[hgc]at h;cases h;refine Cd.subH hsub ?_;obtain⟨fn,i,e,s,p,_,a1,a2,a3,a4,a5,a6,a7,a8,a9,rfl,rfl⟩:=YW hX hrun;refine Cd.intro hX.tt a1 a2 a3 a4 a5 λF _=>(IA hX hcl hcp a7).mono ?_
   rintro _ _ ⟨rfl,rfl⟩;exact⟨a6,d,p,a8,a9,rfl,rfl,rfl⟩
theorem CF (hX:FM C X)(lf fu:Nat){f:Nat}{ds:List D}{d:D}(h:(Ge X lf fu).1 f ds=some d):AK C f ds d:=((Zz hX lf fu).1 f ds d h).1
end
end
inductive Bt (α:Type) where
 |nil
 |node (k:Nat) (v:α) (l r:Bt α)
def Bt.get {α:Type}:Bt α->Nat->Option α
 | .nil,_=>none
 | .node k v l r,t=>match Nat.beq t k with
  |true=>some v
  |false=>match Nat.ble t k with
   |true=>l.get t
   |false=>r.get t
def Bt.toL {α:Type}:Bt α->List (Nat×α)
 | .nil=>[]
 | .node k v l r=>(k,v)::(l.toL++r.toL)
theorem Bt.get_mem {α:Type}:∀ {b:Bt α} {t:Nat} {v:α},b.get t=some v->(t,v)∈b.toL
 | .nil,_,_,h=>by cases h
 | .node k v l r,t,u,h=>by
  simp only[Bt.get]at h;split at h
  ·rename_i hb;cases h;rw[B5 hb];exact CG ..
  ·split at h
   ·exact CK _ (HU _ (Bt.get_mem h))
   ·exact CK _ (List.mem_append_right _ (Bt.get_mem h))
theorem zN {P:Program}{b:Bt A0}(h:b.toL.map (λp=>EB P p.1)=b.toL.map (λp=>some p.2)):Cr P b.get:=λt i hi=>by
 have hm:=Bt.get_mem hi;obtain⟨j,hj,he⟩:=Nd hm
 have:=congrArg (λl=>l[j]?) h
 simp only[A8,A9 hj,he,JE,BM]at this;exact this
theorem zO {P:Program}{b:Bt XI}(h:b.toL.map (λp=>Lv P p.1)=b.toL.map (λp=>some p.2)):L4 P b.get:=λt i hi=>by
 have hm:=Bt.get_mem hi;obtain⟨j,hj,he⟩:=Nd hm
 have:=congrArg (λl=>l[j]?) h
 simp only[A8,A9 hj,he,JE,BM]at this;exact this
def JF (P:Program) (f:Nat) (i:FI):Prop:=∃fn,P.funcs[f]?=some fn/\fn.body=some i.code/\(fn.name == "runtime.NumGoroutine")=false/\DM fn.ntmps i.code=true/\fn.ntmps=i.nt/\fn.results.toList=i.res
def PH (P:Program):Bt FI->Prop
 | .nil=>True
 | .node k v l r=>JF P k v/\PH P l/\PH P r
theorem Vg {P:Program}:∀ {b:Bt FI},PH P b->∀f i,b.get f=some i->JF P f i
 | .nil,_,_,_,h=>by cases h
 | .node k v l r,h,f,i,hi=>by
  simp only[Bt.get]at hi;split at hi
  ·rename_i hb;cases hi;rw[B5 hb];exact h.1
  ·split at hi
   ·exact Vg h.2.1 f i hi
   ·exact Vg h.2.2 f i hi
def Km (f:Func):FI:=⟨f.ntmps,f.results.toList,f.body.getD .skip⟩
def fw (rd:Option Nat):Fence:={ Fence.wide with round:=rd }
theorem KE {rd:Option Nat}{n:Nat}{P:Program}{f:FuncId}{args:Array Value}{w:World}{R:Ending->World->Prop}:CallsIn (fw rd) n P f args w R↔Calls P f args w R:=
 (show CallsIn (fw rd) n P f args w R↔CallsIn Fence.wide n P f args w R from Iff.rfl).trans callsIn_wide
theorem LQ {rd:Option Nat}{n:Nat}:(fw rd).depth.isSome=true->1<=n:=λh=>by cases h
theorem QR {P:Program}{ρ:Operand->Value}{o:Oper}{w w':World}{x:Next}(h:(execOp ρ o).run P w=.ok x w')(hx:∀d,x≠.defer d):∀c,o.op≠.defer c:=λc hc=>by
 unfold execOp at h;simp only[hc]at h;rw[run_bind]at h;split at h
 ·cases h;exact hx _ rfl
 ·cases h
section
variable {C:BC} {F:Aa} {ops:Array Oper} {rd:Option Nat} {Q:Exit->Act->World->Prop}
theorem Nz {P:Program}{o:Oper}{a:Act}{w w':World}{v:Value}{K:Act->World->Prop}(h:(execOp a.eval o).run P w=.ok (.value v) w')(hk:K (a.put o.dst v) w'):o.wpIn (fw rd) 0 P a w K Q:=by
 refine⟨λ_ _=>trivial,?_⟩;rw[Oper.semAt_eq _ _ _ (QR h (by simp)),h];exact hk
theorem jc {P:Program}{o:Oper}{a:Act}{w w':World}{K:Act->World->Prop}(h:(execOp a.eval o).run P w=.ok .skip w')(hk:K (a.put o.dst undef) w'):o.wpIn (fw rd) 0 P a w K Q:=by
 refine⟨λ_ _=>trivial,?_⟩;rw[Oper.semAt_eq _ _ _ (QR h (by simp)),h];exact hk
theorem ja {P:Program}{o:Oper}{a:Act}{w w':World}{f:Nat}{vs:Array Value}{K:Act->World->Prop}(h:(execOp a.eval o).run P w=.ok (.enter f vs) w')
  (hc:Calls P f vs w' λe w''=>∃v,e=.returned v/\K (a.put o.dst v) w''):o.wpIn (fw rd) 0 P a w K Q:=by
 refine⟨λ_ _=>trivial,?_⟩;rw[Oper.semAt_eq _ _ _ (QR h (by simp)),h];refine⟨LQ,KE.2 (hc.mono ?_)⟩;rintro e w'' ⟨v,rfl,hk⟩;exact hk
theorem jb {P:Program}{o:Oper}{a:Act}{w w':World}{l f:Nat}{tmps:Array Value}{as bd:Code}{K:Act->World->Prop}(h:(execOp a.eval o).run P w=.ok (.round l f tmps as bd) w')
  (hc:RoundIn (fw rd) 0 P l f tmps as bd w' λe w''=>∃v,e=.returned v/\K (a.put o.dst v) w''):o.wpIn (fw rd) 0 P a w K Q:=by
 refine⟨λ_ _=>trivial,?_⟩;rw[Oper.semAt_eq _ _ _ (QR h (by simp)),h];refine⟨LQ,hc.mono ?_⟩;rintro e w'' ⟨v,rfl,hk⟩;exact hk
theorem FJ {R:Exit->Act->World->Prop}{l2:List Nat}(hR:∀e a w,R e a w->e=.normal/\wpOpsIn (fw rd) 0 C.P ops Q l2 a w)(hnd:∀(i:Nat) (o:Oper),ops[i]?=some o->∀c,o.op≠.defer c):
  ∀(l:List Nat) (a:Act) (w:World),wpOps C.P ops R l a w->wpOpsIn (fw rd) 0 C.P ops Q (l++l2) a w
 | [],a,w,h=>(hR _ _ _ h).2
 |i::l,a,w,h=>by
  have hlet:¬LetsOut R:=λ⟨a,w,h⟩=>by have:=(hR _ _ _ h).1;cases this
  simp only[wpOps]at h;simp only[ED,wpOpsIn];cases ho:ops[i]? with
  |none=>simp only[ho]at h;exact FJ hR hnd l a w h
  |some o=>
   simp only[ho]at h;dsimp only;split
   ·rename_i hw
    rw[AG hw]at h;rcases h with h|⟨_,h⟩
    ·unfold Oper.wp at h
     refine⟨λ_ _=>trivial,?_⟩;rw[Oper.semAt_eq _ _ _ (hnd i o ho)]
     revert h
     generalize(execOp a.eval o).run C.P w=r;intro h;unfold Oper.upon at h;unfold Oper.uponIn;split at h
     ·exact FJ hR hnd l _ _ h
     ·exact FJ hR hnd l _ _ h
     ·exact FJ hR hnd l _ _ h
     ·refine⟨LQ,KE.2 (h.mono ?_)⟩
      intro e w'' h;cases e with
      |returned v=>exact FJ hR hnd l _ _ h
      |panicked c=>have:=(hR _ _ _ h).1;cases this
      |outgrown=>exact Ad h hlet
     ·exact⟨LQ,λc cs hr=>by
       obtain⟨v,w',h1,h2⟩:=h c cs;exact⟨v,w',FJ hR hnd l _ _ h1,stepsIn_wide.2 h2⟩⟩
     ·have:=(hR _ _ _ h).1;cases this
     ·exact h.elim
    ·exact Ad h hlet
   ·rename_i hw
    rw[AF hw]at h;exact⟨λ_ _=>trivial,FJ hR hnd l _ _ h⟩
theorem Ss {Q:Exit->Act->World->Prop}:∀(l:List Nat) (fuel:Nat) (L:Array Bool) (a:Act) (w:World),L.size=ops.size->l.length<=fuel->(∀i,i<ops.size->(Ls L i↔i∉l))->l.Nodup ->
  (∀A i B,l=A++i::B->(∀j∈GH ops i,j<ops.size/\j∉i::B)/\∀j∈A,EA ops i j)->(∀i∈l,i<ops.size)->Cl ops L ->
  wpOpsIn (fw rd) 0 C.P ops Q l a w->wpAnyIn (fw rd) 0 C.P .any ops Q fuel L a w
 | [],fuel,L,a,w,hs,_,hl,_,_,_,_,h=>by
  have hr:Region.ready .any ops L=[]:=by
   apply List.eq_nil_iff_forall_not_mem.2;intro i hi;obtain⟨h1,h2,_⟩:=GE.1 hi
   have:=(hl i h1).2 (by simp)
   unfold Ls at this;rw[A7,Bn (by omega)]at this h2;simp at this h2;rw[this]at h2;cases h2
  cases fuel with
  |zero=>exact⟨hr,h⟩
  |succ fuel=>exact⟨λ_=>h,λi hi=>by rw[hr]at hi;simp at hi⟩
 |i::l,0,_,_,_,_,hf,_,_,_,_,_,_=>by simp at hf
 |i::l,fuel+1,L,a,w,hs,hf,hl,hnd,hd,hlt,hcl,h=>by
  have hil:=hlt i (by simp);have hLi:∀j,j<ops.size->(L.getD j true=true↔Ls L j):=λj hj=>by
   unfold Ls;rw[A7,A7,Bn (by omega)];simp
  have hready:∀j,j∈Region.ready .any ops L↔j=i:=by
   intro j;rw[GE];constructor
   ·rintro⟨h1,h2,h3⟩
    have hj:j∈i::l:=by
     apply Dc;intro hn
     have:=(hLi j h1).2 ((hl j h1).2 hn)
     rw[h2]at this;cases this
    apply Dc;intro hne;have hjl:j∈l:=by simpa[hne]using hj
    obtain⟨A,B,rfl⟩:=FA hjl;have hreach:=(hd (i::A) j B (by simp)).2 i (by simp)
    have:=Ha hs hcl hreach h3
    exact Ad ((hl i hil).1 this) (by simp)
   ·rintro rfl
    refine⟨hil,?_,λk hk=>?_⟩
    ·cases hb:L.getD j true with
     |false=>rfl
     |true=>exact Ad ((hl j hil).1 ((hLi j hil).1 hb)) (by simp)
    ·have hk2:=(hd [] j l rfl).1 k hk
     exact(hl k hk2.1).2 hk2.2
  have hset:∀j,Ls (L.setIfInBounds i true) j↔j=i\/Ls L j:=λj=>Ls.set (by omega)
  refine⟨λh0=>?_,λj hj=>?_⟩
  ·have:=(hready i).2 rfl
   rw[h0]at this;simp at this
  ·obtain rfl:=(hready j).1 hj
   rw[wpOpsIn_cons]at h;obtain⟨n1,n2⟩:=List.nodup_cons.1 hnd;refine wpOpIn_mono (λa w hk=>?_) h;refine Ss l fuel _ a w (by simp[hs]) (by simp at hf;omega) (λk hk2=>?_) n2 (λA k B hAB=>?_) (λk hk2=>hlt k (by simp[hk2])) ?_ hk
   ·rw[hset,hl k hk2]
    by_cases hkj:k=j
    ·subst hkj;simp[n1]
    ·simp[hkj]
   ·obtain⟨q1,q2⟩:=hd (j::A) k B (by simp[hAB])
    exact⟨q1,λx hx=>q2 x (by simp[hx])⟩
   ·intro k hk2 hks x hx
    have hk3:Ls (L.setIfInBounds j true) k:=by
     unfold Ls;rw[A7,Bn (by simp;omega)]at hk2⊢;simpa using hk2
    show Ls _ x;rw[hset];rcases(hset k).1 hk3 with rfl|hk3
    ·exact .inr ((GE.1 hj).2.2 x hx)
    ·exact .inr (hcl k ((hLi k hks).2 hk3) hks x hx)
theorem iS {Q:Exit->Act->World->Prop}{H:Hp}{n:Nat}{env:Ar}{rs:List DU}{suf:List Nat}(ho:O0 ops rs suf)(hgen:∀e∈H,e.g<n)(hd:∀r∈rs,Dk F.nt r.o=true)
  (hst:∀A r B,rs=A++r::B->ops[r.i]?=some r.o/\CP C F ops H (n+r.i) (Gm A env) r.o r.d r.ne)
  (hend:∀(L:Array Bool) (a:Act) (w:World) (ρ:Lk) (He:Hp),L.size=ops.size->(∀r∈rs,Ls L r.i)->DI C F H n env rs L a w ρ He->wpOpsIn (fw rd) 0 C.P ops Q suf a w):
  ∀(fuel:Nat) (L:Array Bool) (a:Act) (w:World) (ρ:Lk) (He:Hp),L.size=ops.size->((rs.map (·.i)++suf).filter (λi=>!L.getD i false)).length<=fuel->Cl ops L->(∀i∈suf,¬Ls L i) ->
   DI C F H n env rs L a w ρ He->wpAnyIn (fw rd) 0 C.P .any ops Q fuel L a w:=by
 intro fuel
 induction fuel with
 |zero=>
  intro L a w ρ He hL hf hc hs hi;have h0:(rs.map (·.i)++suf).filter (λi=>!L.getD i false)=[]:=FU (by omega);have hall:∀r∈rs,Ls L r.i:=λr hr=>by
   have:=List.filter_eq_nil_iff.1 h0 r.i (by simp;exact .inl ⟨r,hr,rfl⟩)
   simpa[Ls]using this
  have hsuf:suf=[]:=by
   apply List.eq_nil_iff_forall_not_mem.2;intro i hi2
   have:=List.filter_eq_nil_iff.1 h0 i (by simp[hi2])
   exact hs i hi2 (by simpa[Ls]using this)
  subst hsuf;refine Ss [] 0 L a w hL (Af _) (λi hi2=>⟨λ_=>by simp,λ_=>?_⟩) .nil (λA i B h=>by cases A<;>simp at h) (by simp) hc (hend L a w ρ He hL hall hi)
  have:=ho.all i hi2
  simp at this;obtain⟨r,hr,rfl⟩:=this;exact hall r hr
 |succ fuel ih=>
  intro L a w ρ He hL hf hc hs hi
  by_cases hall:∀r∈rs,Ls L r.i
  ·refine Ss suf (fuel+1) L a w hL ?_ (λi hi2=>?_) ?_ (λA i B hAB=>⟨λj hj=>?_,λj hj=>ho.suf A i B hAB j (by simp[hj])⟩) (λi hi2=>ho.lt i (by simp[hi2])) hc (hend L a w ρ He hL hall hi)
   ·refine BX ?_ hf
    rw[List.filter_append,Bc];rw[(List.filter_eq_self (l:=suf)).2 λi hi2=>by have:=hs i hi2;unfold Ls at this;simpa using this];omega
   ·constructor
    ·intro h1 h2;exact hs i h2 h1
    ·intro h1
     have:=ho.all i hi2
     rcases List.mem_append.1 this with h|h
     ·obtain⟨r,hr,rfl⟩:=List.mem_map.1 h;exact hall r hr
     ·exact Ad h h1
   ·exact(Em.1 ho.nodup).2.1
   ·have hA:=ho.first (rs.map (·.i)++A) i B (by simp[hAB]) j hj
    refine⟨ho.lt j (by rw[hAB];rcases List.mem_append.1 hA with h|h<;>simp[h]),λhB=>?_⟩;have hnd:=ho.nodup;rw[hAB,<-De,Em]at hnd;exact hnd.2.2 j hA j hB rfl
  ·have hnot:∃r∈rs,¬Ls L r.i:=by
    apply Dc;intro hn;exact hall λr hr=>Dc λh=>hn ⟨r,hr,h⟩
   have hLt:∀j,j<ops.size->(L.getD j true=true↔Ls L j):=λj hj=>by
    unfold Ls;rw[A7,A7,Bn (by omega)];simp
   have hsome:Region.ready .any ops L≠[]:=by
    obtain⟨r0,hr0,hn0⟩:=hnot
    have:∀X:List DU,∀Y,rs=X++Y->(∃r∈Y,¬Ls L r.i)->(∀r∈X,Ls L r.i)->∃A r B,rs=A++r::B/\¬Ls L r.i/\∀r∈A,Ls L r.i:=by
     intro X Y
     induction Y generalizing X with
     |nil=>rintro _ ⟨r,hr,_⟩ _;simp at hr
     |cons y Y ihY=>
      intro hXY hex hX
      by_cases hy:Ls L y.i
      ·obtain⟨r,hr,hrn⟩:=hex
       rcases BG.1 hr with rfl|hr
       ·exact Ad hy hrn
       ·exact ihY (X++[y]) (by simp[hXY]) ⟨r,hr,hrn⟩ (λr hr=>by
         rcases List.mem_append.1 hr with h|h
         ·exact hX r h
         ·simp at h;subst h;exact hy)
      ·exact⟨X,y,Y,hXY,hy,hX⟩
    obtain⟨A,r,B,h1,h2,h3⟩:=this [] rs rfl ⟨r0,hr0,hn0⟩ (by simp);intro hnil;have hrlt:=ho.lt r.i (by rw[h1];simp)
    have:r.i∈Region.ready .any ops L:=by
     rw[GE];refine⟨hrlt,?_,λj hj=>?_⟩
     ·cases hb:L.getD r.i true with
      |false=>rfl
      |true=>exact Ad ((hLt r.i hrlt).1 hb) h2
     ·have:=ho.first (A.map (·.i)) r.i (B.map (·.i)++suf) (by rw[h1];simp) j hj
      obtain⟨r',hr',rfl⟩:=List.mem_map.1 this;exact h3 r' hr'
    rw[hnil]at this;simp at this
   refine⟨λh0=>Ad h0 hsome,λi hir=>?_⟩;obtain⟨hilt,hin,hid⟩:=GE.1 hir;have hnL:¬Ls L i:=λh=>by rw[(hLt i hilt).2 h]at hin;cases hin
   have hpre:i∈rs.map (·.i):=by
    rcases List.mem_append.1 (ho.all i hilt)with h|h
    ·exact h
    ·obtain⟨A,B,hAB⟩:=FA h
     obtain⟨r0,hr0,hn0⟩:=hnot
     have:=Ha hL hc (ho.suf A i B hAB r0.i (HU _ (List.mem_map.2 ⟨r0,hr0,rfl⟩))) hid
     exact Ad this hn0
   obtain⟨r,hr,rfl⟩:=List.mem_map.1 hpre;obtain⟨A,B,hAB⟩:=FA hr;obtain⟨hor,hgen2,hsteady⟩:=hst A r B hAB;have hset:∀j,Ls (L.setIfInBounds r.i true) j↔j=r.i\/Ls L j:=λj=>Ls.set (by omega)
   have hndr:(rs.map (·.i)).Nodup:=(Em.1 ho.nodup).1;have hsub:∀e∈H,e∈He:=λe he=>hi.perm.mem_iff.2 (by simp[he])
   have hfr:∀k,ρ k (n+r.i)=none:=λk=>by
    apply Dc;intro hk;obtain⟨r',h1,h2,h3⟩:=hi.fresh k (n+r.i) (by omega) hk
    have:r'.i=r.i:=by omega
    rw[this]at h2;exact hnL h2
   have hne:∀e∈He,e.g≠n+r.i:=λe he hg=>by
    rcases List.mem_append.1 (hi.perm.mem_iff.1 he)with h|h
    ·obtain⟨r',h1,h2⟩:=List.mem_filterMap.1 h
     split at h2
     ·rename_i hl
      obtain⟨A',B',hAB'⟩:=FA h1
      have:=(hst A' r' B' hAB').2.1 e h2
      have:r'.i=r.i:=by omega
      rw[this]at hl;exact hnL hl
     ·cases h2
    ·have:=hgen e h;omega
   have next:∀v ρ' w',Iz C F He ρ w (n+r.i) r.d r.ne v ρ' w'->wpAnyIn (fw rd) 0 C.P .any ops Q fuel (L.setIfInBounds r.i true) (a.put r.o.dst v) w':=by
    intro v ρ' w' p;have hi':=hi;rw[hAB]at hi' hndr;have hdst:=ho.dst;rw[hAB]at hdst;have hn':=DI.next hi' (by omega) hnL hndr hdst (hd r hr) p;rw[<-hAB]at hn';refine ih _ _ _ ρ' (Cz r.ne He) (by simp[hL]) ?_ ?_ (λj hj=>?_) hn'
    ·have:((rs.map (·.i)++suf).filter (λi=>!(L.setIfInBounds r.i true).getD i false)).length<((rs.map (·.i)++suf).filter (λi=>!L.getD i false)).length:=by
      have sub:(rs.map (·.i)++suf).filter (λi=>!(L.setIfInBounds r.i true).getD i false)=((rs.map (·.i)++suf).filter (λi=>!L.getD i false)).filter (λi=>!Nat.beq i r.i):=by
       rw[List.filter_filter];apply List.filter_congr;intro x hx;have h1:=hset x;unfold Ls at h1
       by_cases hxr:x=r.i
       ·subst hxr
        have:(L.setIfInBounds r.i true).getD r.i false=true:=h1.2 (.inl rfl)
        simp[this]
       ·have hb:Nat.beq x r.i=false:=by
         cases hb:Nat.beq x r.i with
         |false=>rfl
         |true=>exact Ad (B5 hb) hxr
        rw[hb]
        by_cases hlx:L.getD x false=true
        ·rw[h1.2 (.inr hlx),hlx];rfl
        ·have:¬(L.setIfInBounds r.i true).getD x false=true:=λh=>hlx ((h1.1 h).resolve_left hxr)
         simp only[Bool.not_eq_true]at this hlx;rw[this,hlx];rfl
      rw[sub];apply List.length_filter_lt_length_iff_exists.2;exact⟨r.i,by rw[List.mem_filter];exact⟨by simp;exact .inl ⟨r,hr,rfl⟩,by unfold Ls at hnL;simpa using hnL⟩,by simp⟩
     omega
    ·intro k hk2 hks x hx
     have hk3:Ls (L.setIfInBounds r.i true) k:=by
      unfold Ls;rw[A7,Bn (by simp;omega)]at hk2⊢;simpa using hk2
     show Ls _ x;rw[hset];rcases(hset k).1 hk3 with rfl|hk3
     ·exact .inr (hid x hx)
     ·exact .inr (hc k ((hLt k hks).2 hk3) hks x hx)
    ·rw[hset]
     rintro(rfl|h)
     ·have hnd:=ho.nodup
      rw[Em]at hnd;exact hnd.2.2 r.i (List.mem_map.2 ⟨r,hr,rfl⟩) r.i hj rfl
     ·exact hs j hj h
   unfold wpOpIn;simp only[hor];rcases hsteady He ρ a w hi.mem hsub hfr hne (hi.look ho hL hc hAB hir)with⟨hw,hn0,hrep⟩|⟨hw,hout⟩
   ·rw[AF (by rw[hw];simp)]
    exact⟨λ_ _=>trivial,next undef ρ w ⟨by rw[hn0];exact hi.mem,by rw[hn0];exact .refl _ _ _,λ_ _ _=>rfl,by rw[hn0];exact hrep⟩⟩
   ·rw[AG hw]
    rcases hout with⟨v,ρ',w',h1,h2⟩|⟨f,vs,h1,h2⟩
    ·exact Nz h1 (next v ρ' w' h2)
    ·refine ja h1 (h2.mono ?_)
     rintro e w' ⟨v,rfl,ρ',h3⟩;exact⟨v,rfl,next v ρ' w' h3⟩
theorem dR {R:Exit->Act->World->Prop}{i:Nat}{s:St}{pre suf:List Nat}{envF:Ar}{N:Hp}(hm:C.P.follows .mixedOrders=true)(hc:Hu ops pre suf=true)
  (hpre:Ii C F ops s.H s.n pre s.env [] envF N)
  (h:(∀j∈suf,j<ops.size)->∀(ρ:Lk) (a:Act) (w:World),Bl C F ρ ⟨envF,N++s.H,s.n+ops.size⟩ a w->wpOpsIn (fw rd) 0 C.P ops R suf a w) (hd:ops.toList.all (Dk F.nt)=true) (ρ:Lk) (a:Act) (w:World) (hs:Bl C F ρ s a w):
  (Code.region i ops true).wpIn (fw rd) 0 C.P R a w:=by
 obtain⟨rs,h1,h2,h3,h4⟩:=hpre.recs;have hor:∀r∈rs,ops[r.i]?=some r.o:=λr hr=>by
  obtain⟨A,B,hAB⟩:=FA hr;exact(h4 A r B hAB).1
 have ho:=Tp h1 hor hc;have hds:∀r∈rs,Dk F.nt r.o=true:=λr hr=>by
  refine CQ.1 hd r.o ?_
  have:=hor r hr
  exact Array.mem_toList_iff.2 (Ig this)
 have hrep:∀j,(Array.replicate ops.size false).getD j false=false:=λj=>by
  rw[A7];rw[NV];split<;>rfl
 have hnL:∀j,¬Ls (Array.replicate ops.size false) j:=λj hj=>by unfold Ls at hj;rw[hrep]at hj;cases hj
 refine wpIn_region_any hm ?_;have hin:DI C F s.H s.n s.env rs (Array.replicate ops.size false) a w.drew ρ s.H:=by
  refine⟨hs.mem.drew,?_,λr _ hl=>Ad hl (hnL _),λt _=>(hs.env t).mono (.drew _ _ _),λk g hg hk=>Ad (hs.fresh k g hg) hk,hs.nt,hs.dfr⟩
  have:rs.filterMap (λr=>if(Array.replicate ops.size false).getD r.i false then r.ne else none)=[]:=by
   rw[Vk];intro r _;rw[hrep];rfl
  rw[this];exact List.Perm.refl _
 refine iS ho hs.gen hds h4 ?_ ops.size _ a w.drew ρ s.H (by simp) ?_ ?_ (λj _=>hnL j) hin
 ·intro L a' w' ρ' He hL hall hi
  have hN:He.Perm (N++s.H):=by
   refine hi.perm.trans (List.Perm.append_right _ ?_);have e:rs.filterMap (λr=>if L.getD r.i false then r.ne else none)=rs.filterMap (·.ne):=MT λr hr=>by
    have:=hall r hr;unfold Ls at this;rw[this];rfl
   rw[e,h3]
   have:=LJ rs []
   rw[C5]at this;exact this.symm
  refine h (λj hj=>ho.lt j (by simp[hj])) ρ' a' w' ⟨hi.mem.perm hN,?_,?_,λt=>?_,hi.nt,hi.dfr⟩
  ·intro k g hg
   apply Dc;intro hk;obtain⟨r,hr,_,he⟩:=hi.fresh k g (by simp at hg;omega) hk
   have:=ho.lt r.i (by simp;exact .inl ⟨r,hr,rfl⟩)
   simp at hg;omega
  ·intro e he
   rcases List.mem_append.1 he with he|he
   ·rw[h3]at he
    have he:=(LJ rs []).mem_iff.1 he;rw[C5]at he;obtain⟨r,hr,hre⟩:=List.mem_filterMap.1 he;obtain⟨A,B,hAB⟩:=FA hr
    have:=(h4 A r B hAB).2.1 e hre
    have:=ho.lt r.i (by simp;exact .inl ⟨r,hr,rfl⟩)
    show e.g<s.n+ops.size;omega
   ·have:=hs.gen e he
    show e.g<s.n+ops.size;omega
  ·show AV ρ' (AN F.X ρ' (N++s.H)) w' (envF.get t) _
   rw[<-AN.perm hN,h2]
   by_cases hw:∃r∈rs,r.o.dst=some t
   ·obtain⟨r,hr,hrd⟩:=hw
    rw[OK rs s.env t ho.dst r hr hrd];exact hi.reps r hr (hall r hr) t hrd
   ·rw[LA rs s.env t λr hr hrd=>hw ⟨r,hr,hrd⟩]
    exact hi.old t λr hr _ hrd=>hw ⟨r,hr,hrd⟩
 ·refine BX (List.length_filter_le _ _) ?_
  have hsub:∀(l:List Nat) (n:Nat),l.Nodup->(∀x∈l,x<n)->l.length<=n:=by
   intro l n
   induction n generalizing l with
   |zero=>intro _ h;cases l with
    |nil=>simp
    |cons x l=>exact Ad (h x (by simp)) (by omega)
   |succ n ihn=>
    intro hnd hlt;have h1:=ihn (l.erase n) (hnd.erase n) λx hx=>by
     have:=hlt x (List.mem_of_mem_erase hx)
     have:x≠n:=λh=>by subst h;exact(Vm hnd) hx
     omega
    have:=List.length_erase (a:=n) (l:=l)
    split at this<;>omega
  exact hsub _ _ ho.nodup ho.lt
 ·intro k hk
  have:k<ops.size\/¬k<ops.size:=by omega
  rcases this with hlt|hlt
  ·rw[A7,NV,AG hlt]at hk;cases hk
  ·intro h;exact Ad h hlt
theorem KH {R Q:Exit->Act->World->Prop}(hR:∀e a w,R e a w->e=.normal/\Q .normal a w)(hnd:∀(i:Nat) (o:Oper),ops[i]?=some o->∀c,o.op≠.defer c):
  ∀(fuel:Nat) (L:Array Bool) (a:Act) (w:World),wpAny C.P .any ops R fuel L a w->wpAnyIn (fw rd) 0 C.P .any ops Q fuel L a w
 | 0,L,a,w,h=>⟨h.1,(hR _ _ _ h.2).2⟩
 |fuel+1,L,a,w,h=>⟨λh0=>(hR _ _ _ (h.1 h0)).2,λi hi=>by
   have hlet:¬LetsOut R:=λ⟨a,w,h⟩=>by have:=(hR _ _ _ h).1;cases this
   have hq:=h.2 i hi;unfold wpOp at hq;unfold wpOpIn;split
   ·rename_i ho;simp only[ho]at hq;exact KH hR hnd fuel _ a w hq
   ·rename_i o ho
    simp only[ho]at hq;split
    ·rename_i hw
     rw[AG hw]at hq;rcases hq with hq|⟨_,hq⟩
     ·unfold Oper.wp at hq
      refine⟨λ_ _=>trivial,?_⟩;rw[Oper.semAt_eq _ _ _ (hnd i o ho)]
      revert hq
      generalize(execOp a.eval o).run C.P w=r;intro hq;unfold Oper.upon at hq;unfold Oper.uponIn;split at hq
      ·exact KH hR hnd fuel _ _ _ hq
      ·exact KH hR hnd fuel _ _ _ hq
      ·exact KH hR hnd fuel _ _ _ hq
      ·refine⟨LQ,KE.2 (hq.mono ?_)⟩
       intro e w'' h;cases e with
       |returned v=>exact KH hR hnd fuel _ _ _ h
       |panicked c=>have:=(hR _ _ _ h).1;cases this
       |outgrown=>exact Ad h hlet
      ·exact⟨LQ,λc cs hr=>by
        obtain⟨v,w',h1,h2⟩:=hq c cs;exact⟨v,w',KH hR hnd fuel _ _ _ h1,stepsIn_wide.2 h2⟩⟩
      ·have:=(hR _ _ _ hq).1;cases this
      ·exact hq.elim
     ·exact Ad hq hlet
    ·rename_i hw
     rw[AF hw]at hq;exact⟨λ_ _=>trivial,KH hR hnd fuel _ _ _ hq⟩⟩
end
end Go.Ide
